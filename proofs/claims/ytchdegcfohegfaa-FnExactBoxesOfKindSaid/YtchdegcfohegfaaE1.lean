/- The engine, part 1: an abstract machine over values with a pure content, run by the kernel; plain definitions. -/
import Derived.Calls
namespace Go.Proofs.YtchdegcfohegfaaE

/-- What a value's content is, by its type. -/
inductive Ty where
  | int (k : IntKind)
  | bool
  | str
  | slice (e : TypeId) (t : Ty)
  | vslice (e : TypeId) (t : Ty)
  | pair (a b : Ty)

@[reducible] def T : Ty → Type
  | .int _ => Int
  | .bool => Bool
  | .str => ByteArray
  | .slice _ t => List (T t)
  | .vslice _ t => List (T t) × Nat
  | .pair a b => T a × T b

def kindEq : IntKind → IntKind → Bool
  | .i8, .i8 => true | .i16, .i16 => true | .i32, .i32 => true | .i64, .i64 => true
  | .u8, .u8 => true | .u16, .u16 => true | .u32, .u32 => true | .u64, .u64 => true
  | _, _ => false

theorem kindEq_eq : ∀ {a b : IntKind}, kindEq a b = true → a = b := by
  intro a b
  cases a <;> cases b <;> simp [kindEq]

def tyEq : Ty → Ty → Bool
  | .int k, .int k' => kindEq k k'
  | .bool, .bool => true
  | .str, .str => true
  | .slice e t, .slice e' t' => Nat.beq e e' && tyEq t t'
  | .vslice e t, .vslice e' t' => Nat.beq e e' && tyEq t t'
  | .pair a b, .pair a' b' => tyEq a a' && tyEq b b'
  | _, _ => false

theorem tyEq_eq : ∀ {a b : Ty}, tyEq a b = true → a = b := by
  intro a
  induction a with
  | int k => intro b h; cases b <;> simp [tyEq] at h; rw [kindEq_eq h]
  | bool => intro b h; cases b <;> simp [tyEq] at h; rfl
  | str => intro b h; cases b <;> simp [tyEq] at h; rfl
  | slice e t ih => intro b h; cases b <;> simp [tyEq] at h; rw [h.1, ih h.2]
  | vslice e t ih => intro b h; cases b <;> simp [tyEq] at h; rw [h.1, ih h.2]
  | pair a b iha ihb => intro c h; cases c <;> simp [tyEq] at h; rw [iha h.1, ihb h.2]

def sz : Ty → Nat
  | .pair a b => sz a + sz b
  | _ => 1

def dflt : (t : Ty) → T t
  | .int _ => (0 : Int)
  | .bool => false
  | .str => ByteArray.empty
  | .slice _ t => ([] : List (T t))
  | .vslice _ t => (([], 0) : List (T t) × Nat)
  | .pair a b => (dflt a, dflt b)

/-- A place of the machine: a temporary (even) or an object (odd). -/
abbrev Loc := Nat
def tmpL (t : Nat) : Loc := 2 * t
def objL (tick i : Nat) : Loc := 2 * (tick * 65536 + i) + 1

inductive AVal where
  | int (k : IntKind) (n : Int)
  | bool (b : Bool)
  | str (s : ByteArray)
  | slc (e : TypeId) (t : Ty) (xs : List (T t))
  | vslc (e : TypeId) (t : Ty) (xs : List (T t)) (n : Nat)   -- the first n of xs are seen; the rest lies behind
  | nilslc
  | ref (l : Loc) (n : Option Nat)   -- n: how many elements are seen (none: all)
  | agg (cs : List AVal)
  | tup (vs : List AVal)
  | ptr (l : Loc) (off : Nat)
  | eptr (l : Loc) (i : Nat) (s : Nat) (off : Nat)   -- element i (of s cells), cell off
  | fptr (t : Ty) (x : T t)
  | fn (f : FuncId)
  | undef

inductive Cell where
  | dead
  | val (v : AVal)
  | row (own : Bool) (e : TypeId) (t : Ty) (xs : List (T t))
  | mem (own : Bool) (e : TypeId) (cs : List AVal)
  | deep (e : TypeId) (t : Ty) (k : Nat) (xs : List (T t)) (op : Option (Nat × List AVal))   -- an own row with the own rows in it: the first k elements are given away; op: an element that is opened

abbrev St := List (Loc × Cell)

def look : St → Loc → Cell
  | [], _ => .dead
  | (l', c) :: s, l => bif Nat.beq l' l then c else look s l

def cells : (t : Ty) → T t → List AVal
  | .int k, n => [.int k n]
  | .bool, b => [.bool b]
  | .str, s => [.str s]
  | .slice e t, xs => [.slc e t xs]
  | .vslice e t, xs => [.vslc e t xs.1 xs.2]
  | .pair a b, x => cells a x.1 ++ cells b x.2

def zeroA : Ty → List AVal
  | .int k => [.int k 0]
  | .bool => [.bool false]
  | .str => [.str ByteArray.empty]
  | .slice _ _ => [.nilslc]
  | .vslice _ _ => [.nilslc]
  | .pair a b => zeroA a ++ zeroA b

/-- A step that looks at places and ends in a result. -/
inductive Pr (α : Type) : Type 1 where
  | ret (a : α)
  | get (l : Loc) (k : Cell → Pr α)
  | guard (b : Bool) (p : Pr α)
  | ite (b : Bool) (p q : Pr α)
  | ext {β : Type} (o : Option β) (k : β → Pr α)
  | fail

namespace Pr
def bind {α β : Type} : Pr α → (α → Pr β) → Pr β
  | .ret a, f => f a
  | .get l k, f => .get l fun c => (k c).bind f
  | .guard b p, f => .guard b (p.bind f)
  | .ite b p q, f => .ite b (p.bind f) (q.bind f)
  | .ext o k, f => .ext o fun x => (k x).bind f
  | .fail, _ => .fail

/-- Run it: rs are the places that it looked at. -/
def run {α R : Type} (σ : St) : Pr α → List Loc → (α → List Loc → Option R) → Option R
  | .ret a, rs, κ => κ a rs
  | .get l k, rs, κ => (k (look σ l)).run σ (l :: rs) κ
  | .guard b p, rs, κ => bif b then p.run σ rs κ else none
  | .ite b p q, rs, κ => bif b then p.run σ rs κ else q.run σ rs κ
  | .ext o k, rs, κ => o.bind fun x => (k x).run σ rs κ
  | .fail, _, _ => none
end Pr

/-- A type's table row. -/
inductive UD where
  | int (k : IntKind)
  | bool
  | str
  | slice (e : TypeId)
  | struct (fs : List (Nat × TypeId))
  | arr (n : Nat) (e : TypeId)
  | ptr (e : TypeId)
  | other

structure TD where
  ty : Ty
  ud : UD
  bytes : Nat
  eq : Bool
  cut : Bool

def UD.agg : UD → Bool
  | .struct _ => true
  | .arr _ _ => true
  | _ => false

def UD.kn : UD → Bool
  | .other => false
  | _ => true

abbrev TI := List (TypeId × TD)
def TI.at : TI → TypeId → TD
  | [], _ => ⟨.bool, .other, 0, false, false⟩
  | (t, d) :: l, u => bif Nat.beq t u then d else TI.at l u

def plain1 : AVal → Bool
  | .int _ _ => true
  | .bool _ => true
  | .str _ => true
  | .slc _ _ _ => true
  | .vslc _ _ _ _ => true
  | .nilslc => true
  | .fptr _ _ => true
  | .fn _ => true
  | _ => false

/-- Places that keep their numbers at labels: what a caller has lent. -/
def pinL : List Loc := [3, 5, 7, 9, 11, 13, 15]
def pinned : Cell → Bool
  | .row true _ _ _ => true
  | .mem true _ cs => cs.all plain1
  | .deep _ _ k _ none => Nat.beq k 0
  | _ => false
/-- A function that changes what it is lent: the new contents and the result; the objects with new contents. -/
structure IO (rt : Ty) where
  c : Ty
  F : Nat → St → List AVal → Option (T c × T rt)
  out : T c → St
def IO.G {rt : Ty} (io : IO rt) (k : Nat) (os : St) (xs : List AVal) : Option (St × T rt) := match io.F k os xs with
  | some q => some (io.out q.1, q.2)
  | none => none
theorem IO.G_of {rt : Ty} {io : IO rt} {k : Nat} {os : St} {xs : List AVal} {q : T io.c × T rt} (h : io.F k os xs = some q) : io.G k os xs = some (io.out q.1, q.2) := by
  unfold IO.G
  rw [h]
theorem IO.G_to {rt : Ty} {io : IO rt} {k : Nat} {os : St} {xs : List AVal} {x : St × T rt} (h : io.G k os xs = some x) : ∃ q, io.F k os xs = some q ∧ (io.out q.1, q.2) = x := by
  unfold IO.G at h
  split at h
  · rename_i q hq
    cases h
    exact ⟨q, hq, rfl⟩
  · cases h
/-- A function's contract: its results' contents from its arguments (k bounds rounds). -/
structure Spec where
  views : Bool := false
  rts : List (Ty × Bool)
  own : Bool
  rt : Ty
  f : Nat → List AVal → Option (T rt)
  raw : Bool
  io : Option (IO rt)
  deep : Bool

abbrev Env := FuncId → Option Spec

section ops
open Pr

def tmpv (t : Nat) : Pr AVal := .get (tmpL t) fun
  | .val v => .ret v
  | _ => .fail

def constA : Value → Option AVal
  | .int k n => some (.int k n)
  | .bool b => some (.bool b)
  | .string s => some (.str s)
  | .slice none 0 0 => some .nilslc
  | _ => none

def opd : Operand → Pr AVal
  | .tmp t => tmpv t
  | .const v => match constA v with | some x => .ret x | none => .fail
  | .func f => .ret (.fn f)
  | .global _ => .fail

def opds : List Operand → Pr (List AVal)
  | [] => .ret []
  | x :: xs => (opd x).bind fun v => (opds xs).bind fun vs => .ret (v :: vs)

def opdO : Option Operand → Pr (Option AVal)
  | none => .ret none
  | some x => (opd x).bind fun v => .ret (some v)

def isPlain : AVal → Bool
  | .ref _ _ => false
  | .ptr _ _ => false
  | .eptr _ _ _ _ => false
  | .agg _ => false
  | .tup _ => false
  | .undef => false
  | _ => true

def cellsOk : AVal → Bool
  | .undef => false
  | .tup _ => false
  | _ => true

def asCells : AVal → List AVal
  | .agg cs => cs
  | v => [v]

/-- The content of a row's object, its elements of type t. -/
def castRow {t t' : Ty} (h : tyEq t t' = true) (xs : List (T t)) : List (T t') := tyEq_eq h ▸ xs

def encRow (t' t : Ty) (xs : List (T t)) : Option (List (T t')) :=
  match h : tyEq t t' with
  | true => some (castRow h xs)
  | false => none

/-- One cell as a content (its slices must be told by content). -/
def enc1 : (t : Ty) → AVal → Option (T t)
  | .int k, .int k' n => bif kindEq k' k then some n else none
  | .bool, .bool b => some b
  | .str, .str s => some s
  | .slice e t, .slc e' t' xs => bif Nat.beq e' e then encRow t t' xs else none
  | .slice e t, .vslc e' t' xs n => bif Nat.beq e' e then encRow t t' (xs.take n) else none
  | .slice _ t, .nilslc => some ([] : List (T t))
  | .vslice e t, .slc e' t' xs => bif Nat.beq e' e then match encRow t t' xs with | some ys => some ((ys, ys.length) : List (T t) × Nat) | none => none else none
  | .vslice e t, .vslc e' t' xs n => bif Nat.beq e' e then match encRow t t' xs with | some ys => some ((ys, n) : List (T t) × Nat) | none => none else none
  | .vslice _ t, .nilslc => some (([], 0) : List (T t) × Nat)
  | _, _ => none

/-- Cells as a content: the content and what is left. -/
def enc : (t : Ty) → List AVal → Option (T t × List AVal)
  | .pair a b, cs => match enc a cs with
    | some (x, cs') => match enc b cs' with
      | some (y, cs'') => some ((x, y), cs'')
      | none => none
    | none => none
  | .int k, c :: cs => match enc1 (.int k) c with | some x => some (x, cs) | none => none
  | .bool, c :: cs => match enc1 .bool c with | some x => some (x, cs) | none => none
  | .str, c :: cs => match enc1 .str c with | some x => some (x, cs) | none => none
  | .slice e t, c :: cs => match enc1 (.slice e t) c with | some x => some (x, cs) | none => none
  | .vslice e t, c :: cs => match enc1 (.vslice e t) c with | some x => some (x, cs) | none => none
  | _, _ => none

def encAll (t : Ty) : Nat → List AVal → Option (List (T t))
  | 0, [] => some []
  | 0, _ :: _ => none
  | n + 1, cs => match enc t cs with
    | some (x, cs') => match encAll t n cs' with
      | some xs => some (x :: xs)
      | none => none
    | none => none

/-- The object's content as a row of elements of type t. -/
def rowOf (ti : TI) (t : Ty) (e : TypeId) : Cell → Option (Bool × List (T t))
  | .row own e' t' xs => bif Nat.beq e' e then match encRow t t' xs with | some ys => some (own, ys) | none => none else none
  | .mem own e' cs => bif Nat.beq e' e && tyEq t (ti.at e).ty then match encAll t (cs.length / sz t) cs with | some ys => some (own, ys) | none => none else none
  | _ => none

/-- A value told by content alone (own rows are read). tyOf e: the content of an element of type e. -/
def seen {α : Type} (n : Option Nat) (xs : List α) : List α := match n with
  | none => xs
  | some m => xs.take m

/-- A part of a row as a content: where its end is told, what lies behind is kept. -/
def viewOf (n : Option Nat) (e : TypeId) (t : Ty) (xs : List (T t)) : AVal := match n with
  | none => .slc e t xs
  | some m => .vslc e t xs m

def snap0 (ti : TI) : AVal → Pr AVal
  | .ref l n => .get l fun
    | .row _ e t xs => .ret (viewOf n e t xs)
    | .mem own e cs => match rowOf ti (ti.at e).ty e (.mem own e cs) with
      | some (_, ys) => .ret (viewOf n e (ti.at e).ty ys)
      | none => .fail
    | _ => .fail
  | .agg _ => .fail
  | .tup _ => .fail
  | .ptr _ _ => .fail
  | .eptr _ _ _ _ => .fail
  | .undef => .fail
  | v => .ret v

def snaps0 (ti : TI) : List AVal → Pr (List AVal)
  | [] => .ret []
  | v :: vs => (snap0 ti v).bind fun x => (snaps0 ti vs).bind fun xs => .ret (x :: xs)

/-- The same, where own rows may lie in a literal's cells. -/
def snap1 (ti : TI) : AVal → Pr AVal
  | .ref l n => .get l fun
    | .mem _ e cs => (snaps0 ti cs).bind fun ds => match encAll (ti.at e).ty (ds.length / sz (ti.at e).ty) ds with
      | some ys => .ret (viewOf n e (ti.at e).ty ys)
      | none => .fail
    | .row _ e t xs => .ret (viewOf n e t xs)
    | .deep e t k xs none => bif Nat.beq k 0 && n.isNone then .ret (.slc e t xs) else .fail
    | _ => .fail
  | v => snap0 ti v

def snaps (ti : TI) : List AVal → Pr (List AVal)
  | [] => .ret []
  | v :: vs => (snap1 ti v).bind fun x => (snaps ti vs).bind fun xs => .ret (x :: xs)

/-- A part of a content, by its place and size in cells. -/
def sub : (t : Ty) → T t → Nat → Nat → Option ((t : Ty) × T t)
  | .pair a b, x, off, n => bif Nat.beq off 0 && Nat.beq (sz a + sz b) n then some ⟨.pair a b, x⟩ else
      bif Nat.blt off (sz a) then sub a x.1 off n else sub b x.2 (off - sz a) n
  | t, x, off, n => bif Nat.beq off 0 && Nat.beq n 1 then some ⟨t, x⟩ else none

def cutA (cs : List AVal) (off n : Nat) : List AVal := (cs.drop off).take n
def putA (cs : List AVal) (off : Nat) (vs : List AVal) : List AVal := cs.take off ++ vs ++ cs.drop (off + vs.length)

/-- Cells as a value of a type. -/
def asVal (agg : Bool) (cs : List AVal) : Pr AVal :=
  bif agg then .ret (.agg cs) else match cs with
    | [c] => .ret c
    | _ => .fail

/-- A nil slice is an empty content where its type is known. -/
def nils : Ty → List AVal → List AVal × List AVal
  | .pair a b, cs => match nils a cs with
    | (x, r) => match nils b r with
      | (y, r') => (x ++ y, r')
  | .slice e t, .nilslc :: cs => ([.slc e t []], cs)
  | .vslice e t, .nilslc :: cs => ([.vslc e t [] 0], cs)
  | _, c :: cs => ([c], cs)
  | _, [] => ([], [])

def nil1 : Ty → AVal → AVal
  | .slice e t, .nilslc => .slc e t []
  | .vslice e t, .nilslc => .vslc e t [] 0
  | _, v => v

/-- k ≤ i, where k is mostly zero. -/
def leK : Nat → Nat → Bool
  | 0, _ => true
  | k + 1, i => Nat.ble (k + 1) i

/-- A value for a call: own rows and own variables are read. t: the pointer's target, where it is one. -/
def argA (ti : TI) (raw : Bool) (t : TypeId) : AVal → Pr AVal
  | .agg cs => (snaps ti cs).bind fun xs => .ret (.agg ((nils (ti.at t).ty xs).1 ++ (nils (ti.at t).ty xs).2))
  | .ptr l off => .get l fun
    | .mem _ _ cs => (snaps ti (cutA cs off (sz (ti.at t).ty))).bind fun xs => match enc (ti.at t).ty xs with
      | some (x, []) => .ret (.fptr (ti.at t).ty x)
      | _ => .fail
    | _ => .fail
  | .eptr l i s off => .get l fun
    | .row _ _ t' xs => match sub t' (xs.getD i (dflt t')) off (sz (ti.at t).ty) with
      | some ⟨u, x⟩ => bif Nat.beq s (sz t') then .guard (Nat.blt i xs.length) (.ret (.fptr u x)) else .fail
      | none => .fail
    | .deep _ t' k xs none => match sub t' (xs.getD i (dflt t')) off (sz (ti.at t).ty) with
      | some ⟨u, x⟩ => bif Nat.beq s (sz t') then .guard (Nat.blt i xs.length) (.guard (leK k i) (.ret (.fptr u x))) else .fail
      | none => .fail
    | _ => .fail
  | v => (snap1 ti v).bind fun x => .ret (bif raw then x else nil1 (ti.at t).ty x)

/-- Contents without what lies behind the seen parts. -/
def pl : Ty → Ty
  | .int k => .int k
  | .bool => .bool
  | .str => .str
  | .slice e t => .slice e (pl t)
  | .vslice e t => .slice e (pl t)
  | .pair a b => .pair (pl a) (pl b)

def fg : (t : Ty) → T t → T (pl t)
  | .int _, n => n
  | .bool, b => b
  | .str, s => s
  | .slice _ t, xs => List.map (fg t) xs
  | .vslice _ t, x => List.map (fg t) (x.1.take x.2)
  | .pair a b, x => (fg a x.1, fg b x.2)

def noV : Ty → Bool
  | .slice _ t => noV t
  | .vslice _ _ => false
  | .pair a b => noV a && noV b
  | _ => true

def forget1 : AVal → AVal
  | .slc e t xs => bif noV t then .slc e t xs else .slc e (pl t) (xs.map (fg t))
  | .vslc e t xs n => bif noV t then .slc e t (xs.take n) else .slc e (pl t) ((xs.take n).map (fg t))
  | .fptr t x => bif noV t then .fptr t x else .fptr (pl t) (fg t x)
  | v => v

def view1 : AVal → AVal
  | .slc e t xs => .vslc e t xs xs.length
  | v => v

def forgetA (views : Bool) (v : AVal) : AVal := bif views then match v with
    | .agg cs => .agg (cs.map view1)
    | v => view1 v
  else match v with
  | .agg cs => .agg (cs.map forget1)
  | v => forget1 v

def argsA (ti : TI) (raw : Bool) : List TypeId → List AVal → Pr (List AVal)
  | t :: ts, v :: vs => (argA ti raw t v).bind fun x => (argsA ti raw ts vs).bind fun xs => .ret (x :: xs)
  | [], [] => .ret []
  | _, _ => .fail

/-- The objects that a value's own rows are. -/
def refsOf : AVal → List Loc
  | .ref l _ => [l]
  | .ptr l _ => [l]
  | .eptr l _ _ _ => [l]
  | .agg cs => refsOfs cs
  | .tup cs => refsOfs cs
  | _ => []
where
  refsOfs : List AVal → List Loc
    | [] => []
    | c :: cs => refsOf c ++ refsOfs cs

def memN (n : Nat) : List Nat → Bool
  | [] => false
  | m :: l => Nat.beq n m || memN n l

def disj (a b : List Nat) : Bool := a.all fun x => !memN x b

/-- A result's content as cells and own rows (l: the next object's place). -/
def outCells (own : Bool) : (t : Ty) → T t → Loc → List AVal × List (Loc × Cell) × Loc
  | .slice e t, xs, l => bif own then ([.ref l none], [(l, .row true e t xs)], l + 2) else ([.slc e t xs], [], l)
  | .vslice e t, xs, l => bif own then ([.ref l (some xs.2)], [(l, .row true e t xs.1)], l + 2) else ([.vslc e t xs.1 xs.2], [], l)
  | .pair a b, x, l => match outCells own a x.1 l with
    | (ca, oa, l1) => match outCells own b x.2 l1 with
      | (cb, ob, l2) => (ca ++ cb, oa ++ ob, l2)
  | .int k, n, l => ([.int k n], [], l)
  | .bool, b, l => ([.bool b], [], l)
  | .str, s, l => ([.str s], [], l)

def noSlice : Ty → Bool
  | .slice _ _ => false
  | .vslice _ _ => false
  | .pair a b => noSlice a && noSlice b
  | _ => true

/-- A result in which no memory of the arguments can lie. -/
def flatR (own : Bool) : Ty → Bool
  | .slice _ t => own && noSlice t
  | .vslice _ t => own && noSlice t
  | .pair a b => flatR own a && flatR own b
  | _ => true

def splitVals : List (Ty × Bool) → List AVal → List AVal
  | [], _ => []
  | (t, a) :: r, cs => (bif a then AVal.agg (cs.take (sz t)) else (cs.headD .undef)) :: splitVals r (cs.drop (sz t))

def outVal (rts : List (Ty × Bool)) (cs : List AVal) : AVal :=
  match splitVals rts cs with
  | [v] => v
  | vs => .tup vs

abbrev Ws := List (Loc × Cell)

def locsOf : Ws → List Loc
  | [] => []
  | (l, _) :: ws => l :: locsOf ws

def setTmp (d : Option Nat) (v : AVal) : Ws := match d with
  | some t => [(tmpL t, .val v)]
  | none => []

def natInt (n : Nat) : Int := (n : Int)

def sameInt (op : BinOp) (k : IntKind) (x y : Int) : Pr AVal :=
  match op with
  | .add => .ret (.int k (k.wrap (x + y)))
  | .sub => .ret (.int k (k.wrap (x - y)))
  | .mul => .ret (.int k (k.wrap (x * y)))
  | .quo => .guard (!decide (y = 0)) (.ret (.int k (k.wrap (x.tdiv y))))
  | .rem => .guard (!decide (y = 0)) (.ret (.int k (x.tmod y)))
  | .and => .ret (.int k (k.wrap (BitVec.ofInt k.bits x &&& BitVec.ofInt k.bits y).toNat))
  | .or => .ret (.int k (k.wrap (BitVec.ofInt k.bits x ||| BitVec.ofInt k.bits y).toNat))
  | .xor => .ret (.int k (k.wrap (BitVec.ofInt k.bits x ^^^ BitVec.ofInt k.bits y).toNat))
  | .eql => .ret (.bool (decide (x = y)))
  | .neq => .ret (.bool (!decide (x = y)))
  | .lss => .ret (.bool (decide (x < y)))
  | .leq => .ret (.bool (decide (x ≤ y)))
  | .gtr => .ret (.bool (decide (y < x)))
  | .geq => .ret (.bool (decide (y ≤ x)))
  | _ => .fail

def shiftA (op : BinOp) (k : IntKind) (x y : Int) : Pr AVal :=
  match op with
  | .shl => .guard (!decide (y < 0)) (.ret (.int k (k.wrap (x * 2 ^ (min y.toNat k.bits)))))
  | .shr => .guard (!decide (y < 0)) (.ret (.int k (x.fdiv (2 ^ (min y.toNat k.bits)))))
  | _ => .fail

/-- Are two values the same, by their cells? -/
def fieldOff : List (Nat × TypeId) → Nat → Option (Nat × TypeId)
  | [], _ => none
  | f :: _, 0 => some f
  | _ :: fs, n + 1 => fieldOff fs n

def eqF (ti : TI) (rec : TypeId → List AVal → List AVal → Option Bool) (cs ds : List AVal) : List (Nat × TypeId) → Option Bool
  | [] => some true
  | (off, ft) :: r => match rec ft (cutA cs off (sz (ti.at ft).ty)) (cutA ds off (sz (ti.at ft).ty)) with
    | some b => match eqF ti rec cs ds r with
      | some c => some (b && c)
      | none => none
    | none => none

def eqA (ti : TI) : Nat → TypeId → List AVal → List AVal → Option Bool
  | 0, _, _, _ => none
  | n + 1, t, cs, ds => match (ti.at t).ud with
    | .int _ => match cs, ds with
      | [.int k x], [.int k' y] => bif kindEq k k' then some (decide (x = y)) else none
      | _, _ => none
    | .bool => match cs, ds with
      | [.bool x], [.bool y] => some (x == y)
      | _, _ => none
    | .struct fs => bif (ti.at t).eq then eqF ti (eqA ti n) cs ds fs else none
    | _ => none

def strA (op : BinOp) (x y : ByteArray) : Pr AVal :=
  match op with
  | .add => .guard (decide (x.size + y.size ≤ 9223372036854775807)) (.ret (.str (x ++ y)))
  | .eql => .ret (.bool (x.toList == y.toList))
  | .neq => .ret (.bool (!(x.toList == y.toList)))
  | .lss => .ret (.bool (Op.bytesLess x.toList y.toList))
  | .leq => .ret (.bool (Op.bytesLess x.toList y.toList || x.toList == y.toList))
  | .gtr => .ret (.bool (!(Op.bytesLess x.toList y.toList || x.toList == y.toList)))
  | .geq => .ret (.bool (!Op.bytesLess x.toList y.toList))
  | _ => .fail

def isShift : BinOp → Bool
  | .shl => true
  | .shr => true
  | _ => false

def binA (ti : TI) (op : BinOp) (t : TypeId) : AVal → AVal → Pr AVal
  | .int k x, .int k' y => bif isShift op then shiftA op k x y else bif kindEq k k' then sameInt op k x y else .fail
  | .str x, .str y => strA op x y
  | .bool x, .bool y => match op, (ti.at t).ud with
    | .eql, .bool => .ret (.bool (x == y))
    | .neq, .bool => .ret (.bool (!(x == y)))
    | _, _ => .fail
  | .agg cs, .agg ds => match op, (ti.at t).ud with
    | .eql, .struct _ => match eqA ti 5 t cs ds with
      | some b => .ret (.bool b)
      | none => .fail
    | .neq, .struct _ => match eqA ti 5 t cs ds with
      | some b => .ret (.bool (!b))
      | none => .fail
    | _, _ => .fail
  | _, _ => .fail

def unA (op : UnOp) : AVal → Pr AVal
  | .int k x => match op with
    | .neg => .ret (.int k (k.wrap (0 - x)))
    | _ => .fail
  | .bool b => match op with
    | .not => .ret (.bool (!b))
    | _ => .fail
  | _ => .fail

def lenA (ti : TI) (u : UD) : AVal → Pr Nat
  | .str s => match u with
    | .str => .ret s.size
    | _ => .fail
  | .slc _ _ xs => match u with
    | .slice _ => .ret xs.length
    | _ => .fail
  | .vslc _ _ _ n => match u with
    | .slice _ => .ret n
    | _ => .fail
  | .nilslc => match u with
    | .slice _ => .ret 0
    | _ => .fail
  | .ref l n => match u with
    | .slice _ => match n with
      | some m => .ret m
      | none => .get l fun
        | .row _ _ _ xs => .ret xs.length
        | .mem _ e cs => .ret (cs.length / sz (ti.at e).ty)
        | .deep _ _ _ xs _ => .ret xs.length
        | _ => .fail
    | _ => .fail
  | _ => .fail

def idxA (i : AVal) : Pr Int := match i with
  | .int _ n => .ret n
  | _ => .fail

def boundA (lo : Int) (n : Nat) : Bool := decide (0 ≤ lo) && decide (lo < (n : Int))
def boundE (lo : Int) (n : Nat) : Bool := decide (0 ≤ lo) && decide (lo ≤ (n : Int))

def idxAddrA (ti : TI) (e : TypeId) : AVal → Int → Pr AVal
  | .slc _ t xs, i => bif Nat.beq (sz t) (sz (ti.at e).ty) then .guard (boundA i xs.length) (.ret (.fptr t (xs.getD i.toNat (dflt t)))) else .fail
  | .vslc _ t xs n, i => bif Nat.beq (sz t) (sz (ti.at e).ty) then .guard (boundA i n) (.ret (.fptr t (xs.getD i.toNat (dflt t)))) else .fail
  | .ref l n, i => .get l fun
    | .row _ _ t xs => bif Nat.beq (sz t) (sz (ti.at e).ty) then match n with
      | none => .guard (boundA i xs.length) (.ret (.eptr l i.toNat (sz t) 0))
      | some m => .guard (boundA i m) (.guard (Nat.ble m xs.length) (.ret (.eptr l i.toNat (sz t) 0))) else .fail
    | .mem _ e2 cs => bif Nat.beq e2 e then .guard (boundA i (n.getD (cs.length / sz (ti.at e).ty))) (.ret (.ptr l (i.toNat * sz (ti.at e).ty))) else .fail
    | .deep _ t _ xs _ => bif Nat.beq (sz t) (sz (ti.at e).ty) && n.isNone then .guard (boundA i xs.length) (.ret (.eptr l i.toNat (sz t) 0)) else .fail
    | _ => .fail
  | _, _ => .fail

def fldAddrA (ti : TI) (s : TypeId) (f : Nat) (v : AVal) : Pr AVal :=
  match (ti.at s).ud with
  | .struct fs => match fieldOff fs f with
    | some (off, ft) => match v with
      | .ptr l o => .ret (.ptr l (o + off))
      | .eptr l i s o => .ret (.eptr l i s (o + off))
      | .fptr t x => match sub t x off (sz (ti.at ft).ty) with
        | some ⟨u, y⟩ => .ret (.fptr u y)
        | none => .fail
      | _ => .fail
    | none => .fail
  | _ => .fail

def loadA (ti : TI) (t : TypeId) : AVal → Pr AVal
  | .ptr l off => .get l fun
    | .mem _ _ cs => bif Nat.ble (off + sz (ti.at t).ty) cs.length then asVal (ti.at t).ud.agg (cutA cs off (sz (ti.at t).ty)) else .fail
    | _ => .fail
  | .eptr l i s off => .get l fun
    | .row _ _ t' xs => bif Nat.ble (off + sz (ti.at t).ty) (sz t') && Nat.beq s (sz t') then .guard (Nat.blt i xs.length) (asVal (ti.at t).ud.agg (cutA (cells t' (xs.getD i (dflt t'))) off (sz (ti.at t).ty))) else .fail
    | _ => .fail
  | .fptr t' x => bif Nat.beq (sz t') (sz (ti.at t).ty) then asVal (ti.at t).ud.agg (cells t' x) else .fail
  | _ => .fail

def freeze (σ : Cell) : Cell := match σ with
  | .row _ e t xs => .row false e t xs
  | .mem _ e cs => .mem false e cs
  | .deep _ _ _ _ _ => .dead
  | c => c

/-- Give away the own rows that a value holds: they stay as they are from here on. -/
def freezes : List Loc → Pr Ws
  | [] => .ret []
  | l :: ls => .get l fun c => (freezes ls).bind fun ws => .ret ((l, freeze c) :: ws)

/-- The rows that lie in an object's cells. -/
def innerOf : Cell → List Loc
  | .mem _ _ cs => refsOf (.agg cs)
  | _ => []

def innersOf : List Loc → Pr (List Loc)
  | [] => .ret []
  | l :: ls => .get l fun c => (innersOf ls).bind fun r => .ret (innerOf c ++ r)

/-- Give away with the rows inside (n deep). -/
def freezeD : Nat → List Loc → Pr Ws
  | 0, ls => (innersOf ls).bind fun r => bif r.isEmpty then freezes ls else .fail
  | n + 1, ls => (freezes ls).bind fun ws => (innersOf ls).bind fun r => (freezeD n r).bind fun vs => .ret (ws ++ vs)

def storeA (ti : TI) (t : TypeId) (v : AVal) : AVal → Pr Ws
  | .ptr l off => .get l fun
    | .mem true e cs => bif Nat.ble (off + sz (ti.at t).ty) cs.length && (cellsOk v && Nat.beq (asCells v).length (sz (ti.at t).ty)) then .ret [(l, .mem true e (putA cs off (asCells v)))] else .fail
    | _ => .fail
  | .eptr l i s off => .get l fun
    | .row true e t' xs => bif !cellsOk v || memN l (refsOf v) then .fail else (snaps0 ti (asCells v)).bind fun vs =>
        bif Nat.ble (off + sz (ti.at t).ty) (sz t') && Nat.beq vs.length (sz (ti.at t).ty) && Nat.beq s (sz t') then
          .guard (Nat.blt i xs.length) (match enc t' (putA (cells t' (xs.getD i (dflt t'))) off vs) with
          | some (y, []) => (freezes (refsOf v)).bind fun ws => .ret (ws ++ [(l, .row true e t' (xs.set i y))])
          | _ => .fail)
        else .fail
    | _ => .fail
  | _ => .fail

def fillA (ti : TI) (fs : List (Nat × TypeId)) (cs : List AVal) : List (Nat × AVal) → Option (List AVal)
  | [] => some cs
  | (i, v) :: r => match fieldOff fs i with
    | some (off, ft) => bif cellsOk v && (Nat.beq (asCells v).length (sz (ti.at ft).ty) && Nat.ble (off + sz (ti.at ft).ty) cs.length) then fillA ti fs (putA cs off (asCells v)) r else none
    | none => none

def fillE (n : Nat) (cs : List AVal) : List (Nat × AVal) → Option (List AVal)
  | [] => some cs
  | (i, v) :: r => bif cellsOk v && (Nat.beq (asCells v).length n && Nat.ble (i * n + n) cs.length) then fillE n (putA cs (i * n) (asCells v)) r else none

def partsA : List (Nat × Operand) → Pr (List (Nat × AVal))
  | [] => .ret []
  | (i, x) :: r => (opd x).bind fun v => (partsA r).bind fun vs => .ret ((i, v) :: vs)

def reps (n : Nat) (cs : List AVal) : List AVal := match n with
  | 0 => []
  | n + 1 => cs ++ reps n cs

/-- A bound of a slicing, where it is told. -/
def bndA (d : Int) : Option AVal → Pr Int
  | some v => idxA v
  | none => .ret d

def strSliceA (x : AVal) (lo hi : Option AVal) : Pr AVal := match x with
  | .str s => (bndA 0 lo).bind fun l => (bndA (s.size : Int) hi).bind fun h =>
      .guard (boundE h s.size) (.guard (decide (0 ≤ l) && decide (l ≤ h)) (.ret (.str (s.extract l.toNat h.toNat))))
  | _ => .fail

def sliceA (ti : TI) (e : TypeId) (new : Loc) (x : AVal) (lo hi : Option AVal) : Pr (Ws × AVal) := match x with
  | .slc e' t xs => (bndA 0 lo).bind fun l => (bndA (xs.length : Int) hi).bind fun h =>
      bif tyEq t (ti.at e).ty then .guard (boundE h xs.length) (.guard (decide (0 ≤ l) && decide (l ≤ h)) (.ret ([], .slc e' t ((xs.take h.toNat).drop l.toNat)))) else .fail
  | .vslc e' t xs n => (bndA 0 lo).bind fun l => (bndA (n : Int) hi).bind fun h =>
      bif tyEq t (ti.at e).ty then .guard (boundE h xs.length) (.guard (decide (0 ≤ l) && decide (l ≤ h)) (.ret ([], .slc e' t ((xs.take h.toNat).drop l.toNat)))) else .fail
  | .nilslc => (bndA 0 lo).bind fun l => (bndA 0 hi).bind fun h =>
      .guard (decide (h = 0)) (.guard (decide (l = 0)) (.ret ([], .nilslc)))
  | .ref r n => .get r fun c => match rowOf ti (ti.at e).ty e c with
      | some (own, xs) => match lo, hi with
        | none, some hv => (idxA hv).bind fun h => bif (ti.at e).cut && own then .guard (boundE h xs.length) (.ret ([(r, .dead), (new, .row true e (ti.at e).ty (xs.take h.toNat))], .ref new none))
          else .guard (boundE h xs.length) (.ret ([(r, .row own e (ti.at e).ty xs)], .ref r (some h.toNat)))
        | none, none => .ret ([], .ref r n)
        | some lv, some hv => (idxA lv).bind fun l => (idxA hv).bind fun h => .guard (boundE h xs.length && Nat.ble h.toNat (seen n xs).length) (.guard (decide (0 ≤ l) && decide (l ≤ h)) (.ret ([(r, .row false e (ti.at e).ty xs)], .slc e (ti.at e).ty (((seen n xs).take h.toNat).drop l.toNat))))
        | some lv, none => (idxA lv).bind fun l => .guard (Nat.ble (seen n xs).length xs.length && boundE l (seen n xs).length) (.ret ([(r, .row false e (ti.at e).ty xs)], .slc e (ti.at e).ty ((seen n xs).drop l.toNat)))
      | none => .fail
  | _ => .fail

/-- The row that is appended to: its place is given up. -/
def appBase (ti : TI) (e : TypeId) : AVal → Pr (Ws × List (T (ti.at e).ty))
  | .nilslc => .ret ([], [])
  | .ref l n => .get l fun c => match rowOf ti (ti.at e).ty e c with
    | some (true, xs) => .ret ([(l, .dead)], seen n xs)
    | _ => .fail
  | _ => .fail

/-- What is appended. -/
def appSrc (ti : TI) (e : TypeId) : AVal → Pr (List (T (ti.at e).ty))
  | .nilslc => .ret []
  | .slc e' t xs => match enc1 (.slice e (ti.at e).ty) (.slc e' t xs) with
    | some ys => .ret ys
    | none => .fail
  | .ref l n => .get l fun
    | .row own e' t xs => match rowOf ti (ti.at e).ty e (.row own e' t xs) with
      | some (_, ys) => .ret (seen n ys)
      | none => .fail
    | .mem _ e' cs => bif Nat.beq e' e then (snaps0 ti cs).bind fun ds => match encAll (ti.at e).ty (ds.length / sz (ti.at e).ty) ds with
        | some ys => .ret (seen n ys)
        | none => .fail
      else .fail
    | _ => .fail
  | _ => .fail

/-- The own rows in a literal that is appended are given away. -/
def appFree : AVal → Pr Ws
  | .ref l _ => .get l fun
    | .mem _ _ cs => freezes (refsOf (.agg cs))
    | _ => .ret []
  | _ => .ret []

/-- append(s, x..): the row that comes of it. The row s itself must not lie in what is appended. -/
def appendA (ti : TI) (e : TypeId) (new : Loc) (s x : AVal) : Pr (Ws × AVal) :=
  (appBase ti e s).bind fun b => (appSrc ti e x).bind fun ys => (appFree x).bind fun fs =>
    .guard (decide ((b.2.length + ys.length) * (ti.at e).bytes ≤ 140737488355328))
      (bif disj (locsOf b.1) (locsOf fs) then .ret (fs ++ b.1 ++ [(new, .row true e (ti.at e).ty (b.2 ++ ys))], .ref new none) else .fail)

def nodupN : List Nat → Bool
  | [] => true
  | x :: xs => !memN x xs && nodupN xs

/-! ### rows with own rows in them -/
/-- A scalar of a content, by its place. -/
def getAt : (t : Ty) → T t → Nat → Option AVal
  | .pair a b, x, off => bif Nat.blt off (sz a) then getAt a x.1 off else getAt b x.2 (off - sz a)
  | .int k, n, off => bif Nat.beq off 0 then some (.int k n) else none
  | .bool, b, off => bif Nat.beq off 0 then some (.bool b) else none
  | .str, s, off => bif Nat.beq off 0 then some (.str s) else none
  | _, _, _ => none
def setAt : (t : Ty) → T t → Nat → AVal → Option (T t)
  | .pair a b, x, off, v => bif Nat.blt off (sz a) then match setAt a x.1 off v with | some y => some (y, x.2) | none => none else match setAt b x.2 (off - sz a) v with | some y => some (x.1, y) | none => none
  | .int k, _, off, v => bif Nat.beq off 0 then enc1 (.int k) v else none
  | .bool, _, off, v => bif Nat.beq off 0 then enc1 .bool v else none
  | .str, _, off, v => bif Nat.beq off 0 then enc1 .str v else none
  | _, _, _, _ => none
/-- Cells with own rows in them as a content: these rows go over to what takes it. -/
def absC (ti : TI) : (t : Ty) → List AVal → Pr (T t × List AVal)
  | .pair a b, cs => (absC ti a cs).bind fun x => (absC ti b x.2).bind fun y => .ret ((x.1, y.1), y.2)
  | .slice e t, c :: cs => match c with
    | .nilslc => .ret (([] : List (T t)), cs)
    | .ref m none => .get m fun d => match rowOf ti t e d with
      | some (own, ys) => bif own && noSlice t then .ret (ys, cs) else .fail
      | none => match d with
        | .deep e' t' k ys none => bif Nat.beq e' e && Nat.beq k 0 then match encRow t t' ys with
          | some zs => .ret (zs, cs)
          | none => .fail else .fail
        | _ => .fail
    | _ => .fail
  | .int k, c :: cs => match enc1 (.int k) c with | some x => .ret (x, cs) | none => .fail
  | .bool, c :: cs => match enc1 .bool c with | some x => .ret (x, cs) | none => .fail
  | .str, c :: cs => match enc1 .str c with | some x => .ret (x, cs) | none => .fail
  | _, _ => .fail
def absAll (ti : TI) (t : Ty) : Nat → List AVal → Pr (List (T t))
  | 0, cs => match cs with
    | [] => .ret []
    | _ => .fail
  | n + 1, cs => (absC ti t cs).bind fun x => (absAll ti t n x.2).bind fun xs => .ret (x.1 :: xs)
def deads : List Loc → Ws
  | [] => []
  | l :: ls => (l, .dead) :: deads ls
/-- A content as cells with own rows in them. -/
def outCellsD : (t : Ty) → T t → Loc → List AVal × List (Loc × Cell) × Loc
  | .slice e t, xs, l => bif noSlice t then ([.ref l none], [(l, .row true e t xs)], l + 2) else ([.ref l none], [(l, .deep e t 0 xs none)], l + 2)
  | .vslice e t, x, l => ([.vslc e t x.1 x.2], [], l)
  | .pair a b, x, l => match outCellsD a x.1 l with
    | (ca, oa, l1) => match outCellsD b x.2 l1 with
      | (cb, ob, l2) => (ca ++ cb, oa ++ ob, l2)
  | .int k, n, l => ([.int k n], [], l)
  | .bool, b, l => ([.bool b], [], l)
  | .str, s, l => ([.str s], [], l)

/-- A literal is appended: its rows go over. -/
def appendD (ti : TI) (e : TypeId) (new l : Loc) (xs : List (T (ti.at e).ty)) (x : AVal) : Pr (Ws × AVal) := match x with
  | .ref m none => .get m fun
    | .mem _ e' cs => bif Nat.beq e' e && (nodupN (refsOf (.agg cs)) && (!memN l (refsOf (.agg cs)) && Nat.blt 0 (cs.length / sz (ti.at e).ty))) then
        (absAll ti (ti.at e).ty (cs.length / sz (ti.at e).ty) cs).bind fun ys =>
          .guard (decide ((xs.length + ys.length) * (ti.at e).bytes ≤ 140737488355328)) (.ret (deads (refsOf (.agg cs)) ++ [(l, .dead), (new, .deep e (ti.at e).ty 0 (xs ++ ys) none)], .ref new none))
      else .fail
    | _ => .fail
  | _ => .fail
def appendX (ti : TI) (e : TypeId) (new : Loc) (s x : AVal) : Pr (Ws × AVal) := match s with
  | .ref l none => .get l fun
    | .deep e' t' k xs none => bif Nat.beq e' e && Nat.beq k 0 then match encRow (ti.at e).ty t' xs with
      | some ys => appendD ti e new l ys x
      | none => .fail else .fail
    | _ => appendA ti e new s x
  | s => appendA ti e new s x
/-- The opened element of a row, closed again. -/
def openD (ti : TI) (t : TypeId) (new l : Loc) (pre : Ws) (e : TypeId) (t' : Ty) (k : Nat) (xs : List (T t')) (i off : Nat) : Pr (Ws × AVal) :=
  .guard (Nat.blt i xs.length) (.guard (leK k i) (match outCellsD t' (xs.getD i (dflt t')) new with
    | (as, os, l') => bif Nat.ble l' (new + 128) then (asVal (ti.at t).ud.agg (cutA as off (sz (ti.at t).ty))).bind fun v => .ret (pre ++ [(l, .deep e t' k xs (some (i, as)))] ++ os, v) else .fail))
def loadX (ti : TI) (t : TypeId) (new : Loc) (v : AVal) : Pr (Ws × AVal) := match v with
  | .eptr l i s off => .get l fun
    | .deep e t' k xs op => bif Nat.ble (off + sz (ti.at t).ty) (sz t') && Nat.beq s (sz t') then match op with
      | none => match bif (ti.at t).ud.agg then none else getAt t' (xs.getD i (dflt t')) off with
        | some v => bif Nat.beq (sz (ti.at t).ty) 1 then .guard (Nat.blt i xs.length) (.guard (leK k i) (.ret ([], v))) else .fail
        | none => openD ti t new l [] e t' k xs i off
      | some (j, cs) => bif nodupN (refsOf (.agg cs)) && !memN l (refsOf (.agg cs)) then (absC ti t' cs).bind fun x => match x.2 with
        | [] => openD ti t new l (deads (refsOf (.agg cs))) e t' k (xs.set j x.1) i off
        | _ => .fail else .fail
      else .fail
    | _ => (loadA ti t v).bind fun x => .ret ([], x)
  | v => (loadA ti t v).bind fun x => .ret ([], x)
def storeX (ti : TI) (t : TypeId) (v p : AVal) : Pr Ws := match p with
  | .eptr l i s off => .get l fun
    | .deep e t' k xs none => bif Nat.beq (sz (ti.at t).ty) 1 && Nat.beq s (sz t') then match setAt t' (xs.getD i (dflt t')) off v with
      | some y => .guard (Nat.blt i xs.length) (.guard (leK k i) (.ret [(l, .deep e t' k (xs.set i y) none)]))
      | none => .fail else .fail
    | _ => storeA ti t v p
  | p => storeA ti t v p

def maxA (least : Bool) : AVal → AVal → Pr AVal
  | .int k x, .int k' y => bif kindEq k k' then .ret (.int k (bif (bif least then decide (y < x) else decide (x < y)) then y else x)) else .fail
  | _, _ => .fail

def opdEq : Operand → Operand → Bool
  | .tmp t, .tmp u => Nat.beq t u
  | .const (.int _ x), .const (.int _ y) => decide (x = y)
  | _, _ => false

/-- Cells of whole numbers. -/
def intsOf (k : IntKind) : List AVal → Option (List Int)
  | [] => some []
  | .int k' n :: cs => bif kindEq k' k then match intsOf k cs with | some l => some (n :: l) | none => none else none
  | _ => none

/-- What is lent: the first argument's own objects, by the numbers that the callee knows. -/
def lendC : List AVal → List Loc → Option (List AVal × List (Loc × Loc))
  | [], _ => some ([], [])
  | .ref l o :: cs, p :: ps => match lendC cs ps with
    | some r => some (.ref p o :: r.1, (p, l) :: r.2)
    | none => none
  | c :: cs, ps => bif plain1 c then match lendC cs ps with
    | some r => some (c :: r.1, r.2)
    | none => none else none
def lendA : AVal → Option (AVal × List (Loc × Loc))
  | .ref l o => some (.ref 3 o, [(3, l)])
  | .ptr l off => bif Nat.beq off 0 then some (.ptr 3 0, [(3, l)]) else none
  | .agg cs => match lendC cs pinL with
    | some r => some (.agg r.1, r.2)
    | none => none
  | _ => none
def okC (ti : TI) : Cell → Bool
  | .mem _ e _ => (ti.at e).ud.kn
  | _ => true
def getAll (ti : TI) : List (Loc × Loc) → Pr St
  | [] => .ret []
  | (p, l) :: r => .get l fun c => bif pinned c && okC ti c then (getAll ti r).bind fun os => .ret ((p, c) :: os) else .fail
def locEq : List Nat → List Nat → Bool
  | [], [] => true
  | x :: xs, y :: ys => Nat.beq x y && locEq xs ys
  | _, _ => false
def callIO (ti : TI) (raw : Bool) (rts : List (Ty × Bool)) (rt : Ty) (io : IO rt) (k : Nat) (new : Loc) (dst : Option Tmp) (args : List Operand) (tys : List TypeId) : Pr Ws :=
  (opds args).bind fun
    | v0 :: vs => match lendA v0 with
      | some (u0, prs) => bif nodupN (prs.map Prod.snd) && (nodupN (prs.map Prod.fst) && (refsOf (.agg vs)).isEmpty) then
          (getAll ti prs).bind fun os => (argsA ti raw (tys.drop 1) vs).bind fun xs =>
            .ext (io.F k os (u0 :: xs.map (forgetA false))) fun r =>
              bif locEq ((io.out r.1).map Prod.fst) (prs.map Prod.fst) && ((io.out r.1).all (fun p => pinned p.2 && okC ti p.2) && noSlice rt) then
                .ret ((prs.map Prod.snd).zip ((io.out r.1).map Prod.snd) ++ setTmp dst (outVal rts (outCells false rt r.2 new).1)) else .fail
        else .fail
      | none => .fail
    | [] => .fail

/-- Zeros are appended to nil. -/
def appNA (ti : TI) (new : Loc) (dst : Option Tmp) (t t' : TypeId) (s x : AVal) : Pr Ws := match (ti.at t).ud, (ti.at t').ud, s, x with
  | .slice e, .int _, .nilslc, .int _ n => .guard (decide (0 < n)) (.guard (decide (n.toNat * (ti.at e).bytes ≤ 140737488355328))
      (.ret ((new, .row true e (ti.at e).ty (List.replicate n.toNat (dflt (ti.at e).ty))) :: setTmp dst (.ref new none))))
  | _, _, _, _ => .fail

/-- What an operation does: what it writes. new: the place of an object that it makes. -/
def opA (ti : TI) (env : Env) (k : Nat) (new : Loc) (o : Oper) : Pr Ws :=
  match o.op with
  | .move x => (opd x).bind fun v => .ret (setTmp o.dst v)
  | .assign x => (opd x).bind fun v => .ret (setTmp o.dst v)
  | .pick c a b => (opd c).bind fun
    | .bool z => .ite z ((opd a).bind fun v => .ret (setTmp o.dst v)) ((opd b).bind fun v => .ret (setTmp o.dst v))
    | _ => .fail
  | .alloc e => bif (ti.at e).ud.kn then .ret ((new, .mem true e (zeroA (ti.at e).ty)) :: setTmp o.dst (.ptr new 0)) else .fail
  | .box e x => (opd x).bind fun v => bif cellsOk v && ((ti.at e).ud.kn && Nat.beq (asCells v).length (sz (ti.at e).ty)) then .ret ((new, .mem true e (asCells v)) :: setTmp o.dst (.ptr new 0)) else .fail
  | .build t parts => (partsA parts.toList).bind fun ps => match (ti.at t).ud with
    | .struct fs => match fillA ti fs (zeroA (ti.at t).ty) ps with
      | some cs => .ret (setTmp o.dst (.agg cs))
      | none => .fail
    | .arr _ e => match fillE (sz (ti.at e).ty) (zeroA (ti.at t).ty) ps with
      | some cs => .ret (setTmp o.dst (.agg cs))
      | none => .fail
    | _ => .fail
  | .buildSlice t n parts => (partsA parts.toList).bind fun ps => match (ti.at t).ud with
    | .slice e => bif Nat.ble (n * sz (ti.at e).ty) 4096 then match fillE (sz (ti.at e).ty) (reps n (zeroA (ti.at e).ty)) ps with
      | some cs => .ret ((new, .mem true e cs) :: setTmp o.dst (.ref new none))
      | none => .fail else .fail
    | _ => .fail
  | .load t a => (opd a).bind fun v => bif (ti.at t).ud.kn then (loadX ti t new v).bind fun r => .ret (r.1 ++ setTmp o.dst r.2) else .fail
  | .store t a x => (opd a).bind fun p => (opd x).bind fun v => bif (ti.at t).ud.kn && o.dst.isNone then storeX ti t v p else .fail
  | .nilCheck x => (opd x).bind fun
    | .ptr l off => .ret (setTmp o.dst (.ptr l off))
    | .eptr l i s off => .ret (setTmp o.dst (.eptr l i s off))
    | .fptr t x => .ret (setTmp o.dst (.fptr t x))
    | _ => .fail
  | .binOp op t x y _ => (opd x).bind fun v => (opd y).bind fun w => (binA ti op t v w).bind fun z => .ret (setTmp o.dst z)
  | .unOp op _ x => (opd x).bind fun v => (unA op v).bind fun z => .ret (setTmp o.dst z)
  | .convert s d x => (opd x).bind fun v => match (ti.at s).ud, (ti.at d).ud, v with
    | .int _, .int k, .int _ n => .ret (setTmp o.dst (.int k (k.wrap n)))
    | .str, .str, .str s => .ret (setTmp o.dst (.str s))
    | _, _, _ => .fail
  | .makeSlice t l c => (opd l).bind fun lv => (opd c).bind fun cv => (idxA lv).bind fun ln => (idxA cv).bind fun cn => match (ti.at t).ud with
    | .slice e => .guard (decide (0 ≤ ln)) (.guard (decide (ln ≤ cn)) (.guard (decide (cn * (ti.at e).bytes ≤ 140737488355328))
        (.ret ((new, .row true e (ti.at e).ty (List.replicate cn.toNat (dflt (ti.at e).ty))) :: setTmp o.dst (.ref new (bif opdEq l c then none else some ln.toNat))))))
    | _ => .fail
  | .slice t x lo hi mx => match mx with
    | some _ => .fail
    | none => (opd x).bind fun v => (opdO lo).bind fun lv => (opdO hi).bind fun hv => match (ti.at t).ud with
      | .str => (strSliceA v lv hv).bind fun z => .ret (setTmp o.dst z)
      | .slice e => (sliceA ti e new v lv hv).bind fun r => .ret (r.1 ++ setTmp o.dst r.2)
      | _ => .fail
  | .fieldAddr s x f => (opd x).bind fun v => (fldAddrA ti s f v).bind fun z => .ret (setTmp o.dst z)
  | .field s x f => (opd x).bind fun v => match (ti.at s).ud, v with
    | .struct fs, .agg cs => match fieldOff fs f with
      | some (off, ft) => bif Nat.ble (off + sz (ti.at ft).ty) cs.length then (asVal (ti.at ft).ud.agg (cutA cs off (sz (ti.at ft).ty))).bind fun z => .ret (setTmp o.dst z) else .fail
      | none => .fail
    | _, _ => .fail
  | .indexAddr t x i => (opd x).bind fun v => (opd i).bind fun iv => (idxA iv).bind fun n => match (ti.at t).ud with
    | .slice e => (idxAddrA ti e v n).bind fun z => .ret (setTmp o.dst z)
    | _ => .fail
  | .index t x i => (opd x).bind fun v => (opd i).bind fun iv => (idxA iv).bind fun n => match v with
    | .str s => bif (match (ti.at t).ud with | .str => true | _ => false) then .guard (boundA n s.size) (.ret (setTmp o.dst (.int .u8 ((s.data.getD n.toNat 0).toNat : Int)))) else .fail
    | .agg cs => match (ti.at t).ud with
      | .arr len e => match (ti.at e).ud, (ti.at e).ty with
        | .int _, .int k => match intsOf k cs with
          | some xs => bif Nat.beq xs.length len then .guard (boundA n xs.length) (.ret (setTmp o.dst (.int k (xs.getD n.toNat 0)))) else .fail
          | none => .fail
        | _, _ => .fail
      | _ => .fail
    | _ => .fail
  | .extract x i => (opd x).bind fun
    | .tup vs => match vs.drop i with
      | v :: _ => .ret (setTmp o.dst v)
      | [] => .fail
    | _ => .fail
  | .call c => match c.callee with
    | .builtin .len => (opds c.args.toList).bind fun
      | [v] => match c.argTypes.toList with
        | [t] => (lenA ti (ti.at t).ud v).bind fun n => .ret (setTmp o.dst (.int .i64 (n : Int)))
        | _ => .fail
      | _ => .fail
    | .builtin .append => (opds c.args.toList).bind fun
      | [s, x] => match c.argTypes.toList with
        | [t, t'] => bif Nat.beq t t' then match (ti.at t).ud with
          | .slice e => (appendX ti e new s x).bind fun r => .ret (r.1 ++ setTmp o.dst r.2)
          | _ => .fail else appNA ti new o.dst t t' s x
        | _ => .fail
      | _ => .fail
    | .builtin .max => (opds c.args.toList).bind fun
      | [x, y] => (maxA false x y).bind fun z => .ret (setTmp o.dst z)
      | _ => .fail
    | .builtin .min => (opds c.args.toList).bind fun
      | [x, y] => (maxA true x y).bind fun z => .ret (setTmp o.dst z)
      | _ => .fail
    | .builtin .cap => (opds c.args.toList).bind fun
      | [.nilslc] => match c.argTypes.toList with
        | [t] => match (ti.at t).ud with
          | .slice _ => .ret (setTmp o.dst (.int .i64 0))
          | _ => .fail
        | _ => .fail
      | _ => .fail
    | .value f => (opd f).bind fun
      | .fn f => match env f with
        | some s => match s.io with
          | some io => callIO ti s.raw s.rts s.rt io k new o.dst c.args.toList c.argTypes.toList
          | none => (opds c.args.toList).bind fun vs => (argsA ti s.raw (c.argTypes.toList) vs).bind fun xs =>
            .ext (s.f k (xs.map (forgetA s.views))) fun r => bif s.deep then match outCellsD s.rt r new with
              | (cs, os, l') => bif Nat.ble l' (new + 128) then .ret (os ++ setTmp o.dst (outVal s.rts cs)) else .fail
            else match outCells s.own s.rt r new with
              | (cs, os, l') => bif Nat.ble l' (new + 128) then bif flatR s.own s.rt then .ret (os ++ setTmp o.dst (outVal s.rts cs)) else
                (freezeD 3 (refsOf (.agg vs))).bind fun ws => .ret (ws ++ os ++ setTmp o.dst (outVal s.rts cs)) else .fail
        | none => .fail
      | _ => .fail
    | _ => .fail
  | _ => .fail
end ops

section machine
variable {R : Type}

def gtmp (ops : List Oper) (j : Nat) : Option Nat := match ops.drop j with
  | o :: _ => o.dst
  | [] => none

def isGuard (ops : List Oper) (i : Nat) : Bool := ops.any fun o => match o.guard with
  | some (j, _) => Nat.beq i j
  | none => false

/-- What a guard asks for is told apart where it is made. -/
def splitB : Ws → Pr Ws
  | [(l, .val (.bool b))] => .ite b (.ret [(l, .val (.bool true))]) (.ret [(l, .val (.bool false))])
  | _ => .fail

def boolEq : Bool → Bool → Bool
  | true, b => b
  | false, b => !b

def stepA (ti : TI) (env : Env) (k : Nat) (all : List Oper) (new : Loc) (i : Nat) (o : Oper) : Pr Ws :=
  let body := bif isGuard all i then (opA ti env k new o).bind splitB else opA ti env k new o
  match o.guard with
  | none => body
  | some (j, want) => match gtmp all j with
    | some t => .get (tmpL t) fun
      | .val (.bool b) => .ite (boolEq b want) body (.ret (setTmp o.dst .undef))
      | .val .undef => .ret (setTmp o.dst .undef)
      | _ => .fail
    | none => .fail

def put (σ : St) (ws : Ws) : St := ws.reverse ++ σ

def isObj : Cell → Bool
  | .row _ _ _ _ => true
  | .mem _ _ _ => true
  | .deep _ _ _ _ _ => true
  | _ => false

/-- Objects lie at odd places alone; temporaries are those of the function. -/
def oddW : Ws → Bool
  | [] => true
  | (l, c) :: ws => (!isObj c || Nat.beq (l % 2) 1) && oddW ws

def dstOk (N : Nat) (o : Oper) : Bool := match o.dst with
  | none => true
  | some d => Nat.blt d N

def runOps (ti : TI) (env : Env) (N : Nat) (k : Nat) (tick : Nat) (all : List Oper) : List Oper → Nat → St → List (List Loc × List Loc) → (St → List (List Loc × List Loc) → Option R) → Option R
  | [], _, σ, acc, κ => κ σ acc
  | o :: os, i, σ, acc, κ => bif dstOk N o then (stepA ti env k all (objL tick (64 * i)) i o).run σ [] fun ws rs => bif oddW ws then runOps ti env N k tick all os (i + 1) (put σ ws) (acc ++ [(rs, locsOf ws)]) κ else none else none

def addN : List Nat → List Nat → List Nat
  | l, [] => l
  | l, x :: xs => addN (bif memN x l then l else x :: l) xs

/-- The operations that each waits for. -/
def ancs : List Oper → List (List Nat) → List (List Nat)
  | [], acc => acc
  | o :: os, acc => ancs os (acc ++ [addN [] (o.after.toList.flatMap fun e => bif Region.binds .any e then e.on :: acc.getD e.on [] else [])])

def apartB : List (List Nat) → List (List Loc × List Loc) → Bool
  | as, acc => (List.range acc.length).all fun j => (List.range j).all fun i =>
      memN i (as.getD j []) || (disj (acc.getD i ([], [])).2 (acc.getD j ([], [])).1 && disj (acc.getD i ([], [])).2 (acc.getD j ([], [])).2 && disj (acc.getD j ([], [])).2 (acc.getD i ([], [])).1)

/-- Each edge leads back. -/
def backB : List Oper → Nat → Bool
  | [], _ => true
  | o :: os, i => (o.after.toList.all fun e => !Region.binds .any e || Nat.blt e.on i) && backB os (i + 1)

def runRegion (ti : TI) (env : Env) (N : Nat) (k : Nat) (tick : Nat) (ops : Array Oper) (draw : Bool) (σ : St) (κ : St → Option R) : Option R :=
  bif Nat.ble ops.size 1024 then runOps ti env N k tick ops.toList ops.toList 0 σ [] fun σ' acc => bif draw then (bif backB ops.toList 0 && apartB (ancs ops.toList []) acc then κ σ' else none) else κ σ'
  else none

/-- The fixed form of a value of one cell. -/
inductive Sh1 where
  | v
  | frz (e : TypeId) (t : Ty)
  | own (e : TypeId) (t : Ty)
  | view (e : TypeId) (t : Ty)
  | deep (tail : Bool) (e : TypeId) (t : Ty)

inductive Sh where
  | one (s : Sh1)
  | box (e : TypeId) (shs : List Sh1)
  | rbox (e : TypeId) (shs : List Sh1)
  | agg (shs : List Sh1)

inductive Hint where
  | lab (sh : List (Nat × Sh))
  | unr (n : Nat)

abbrev Hints := List (Nat × Hint)
def Hints.at : Hints → Nat → Option Hint
  | [], _ => none
  | (i, h) :: l, j => bif Nat.beq i j then some h else Hints.at l j

def ren : List (Loc × Loc) → Loc → Option Loc
  | [], _ => none
  | (a, b) :: r, l => bif Nat.beq a l then some b else ren r l

abbrev Nm (α : Type) := Option (α × Ws × List (Loc × Loc) × Loc)

/-- A value in its fixed form: (value, objects, places renamed, next place). Place 0 stands for 'given away'. -/
def normV1 (ti : TI) (σ : St) : Sh1 → AVal → List (Loc × Loc) → Loc → Nm AVal
  | .v, v, rn, new => bif plain1 v then some (v, [], rn, new) else none
  | .frz e t, v, rn, new => match v with
    | .nilslc => some (.slc e t [], [], rn, new)
    | .slc e' t' xs => bif Nat.beq e' e then match encRow t t' xs with | some ys => some (.slc e t ys, [], rn, new) | none => none else none
    | .vslc e' t' xs n => bif Nat.beq e' e then match encRow t t' (xs.take n) with | some ys => some (.slc e t ys, [], rn, new) | none => none else none
    | .ref l n => match rowOf ti t e (look σ l) with
      | some (_, xs) => match ren rn l with
        | some m => bif Nat.beq m 0 then some (.slc e t (seen n xs), [], rn, new) else none
        | none => some (.slc e t (seen n xs), [], (l, 0) :: rn, new)
      | none => none
    | _ => none
  | .own e t, v, rn, new => match v with
    | .nilslc => some (.ref new none, [(new, .row true e t [])], rn, new + 2)
    | .ref l n => match ren rn l with
      | some m => bif Nat.beq m 0 then none else match n with | none => some (.ref m none, [], rn, new) | some _ => none
      | none => match n with
        | none => match rowOf ti t e (look σ l) with | some (true, xs) => some (.ref new none, [(new, .row true e t xs)], (l, new) :: rn, new + 2) | _ => none
        | some _ => none
    | _ => none
  | .view e t, v, rn, new => match v with
    | .ref l n => match ren rn l with
      | some m => bif Nat.beq m 0 then none else some (.ref m n, [], rn, new)
      | none => match rowOf ti t e (look σ l) with | some (true, xs) => some (.ref new n, [(new, .row true e t xs)], (l, new) :: rn, new + 2) | _ => none
    | _ => none
  | .deep tl e t, v, rn, new => match v with
    | .nilslc => some (.ref new none, [(new, .deep e t 0 [] none)], rn, new + 2)
    | .ref l n => match ren rn l with
      | some m => bif Nat.beq m 0 then none else match n with | none => some (.ref m none, [], rn, new) | some _ => none
      | none => match n with
        | none => match look σ l with
          | .deep e' t' k xs none => bif Nat.beq e' e then match encRow t t' xs with | some ys => bif tl || Nat.beq k 0 then some (.ref new none, [(new, .deep e t k ys none)], (l, new) :: rn, new + 2) else none | none => none else none
          | _ => none
        | some _ => none
    | _ => none

def normVs (ti : TI) (σ : St) : List Sh1 → List AVal → List (Loc × Loc) → Loc → Nm (List AVal)
  | [], [], rn, new => some ([], [], rn, new)
  | s :: ss, v :: vs, rn, new => match normV1 ti σ s v rn new with
    | some (x, ws, rn', new') => match normVs ti σ ss vs rn' new' with
      | some (xs, ws', rn'', new'') => some (x :: xs, ws ++ ws', rn'', new'')
      | none => none
    | none => none
  | _, _, _, _ => none

def normV (ti : TI) (σ : St) : Sh → AVal → List (Loc × Loc) → Loc → Nm AVal
  | .one s, v, rn, new => normV1 ti σ s v rn new
  | .agg shs, v, rn, new => match v with
    | .agg cs => match normVs ti σ shs cs rn new with
      | some (ds, ws, rn', new') => some (.agg ds, ws, rn', new')
      | none => none
    | _ => none
  | .box e shs, v, rn, new => match v with
    | .ptr l off => bif Nat.beq off 0 then match ren rn l with
      | some m => bif Nat.beq m 0 then none else some (.ptr m 0, [], rn, new)
      | none => match look σ l with
        | .mem true e' cs => bif Nat.beq e' e then match normVs ti σ shs cs ((l, new) :: rn) (new + 2) with
          | some (ds, ws, rn', new') => some (.ptr new 0, (new, .mem true e ds) :: ws, rn', new')
          | none => none else none
        | _ => none
      else none
    | _ => none
  | .rbox e shs, v, rn, new => match v with
    | .ref l off => match off with
      | none => match ren rn l with
        | some m => bif Nat.beq m 0 then none else some (.ref m none, [], rn, new)
        | none => match look σ l with
          | .mem true e' cs => bif Nat.beq e' e then match normVs ti σ shs cs ((l, new) :: rn) (new + 2) with
            | some (ds, ws, rn', new') => some (.ref new none, (new, .mem true e ds) :: ws, rn', new')
            | none => none else none
          | _ => none
      | some _ => none
    | _ => none

def normS (ti : TI) (σ : St) : List (Nat × Sh) → List (Loc × Loc) → Loc → Option (St × List (Loc × Loc) × Loc)
  | [], rn, new => some ([], rn, new)
  | (t, sh) :: r, rn, new => match look σ (tmpL t) with
    | .val v => match normV ti σ sh v rn new with
      | some (x, ws, rn', new') => match normS ti σ r rn' new' with
        | some (τ, q) => some ((tmpL t, .val x) :: ws ++ τ, q)
        | none => none
      | none => none
    | _ => none

def pinsOf (σ : St) : List Loc → List (Loc × Loc) × St
  | [] => ([], [])
  | l :: ls => bif pinned (look σ l) then ((l, l) :: (pinsOf σ ls).1, (l, look σ l) :: (pinsOf σ ls).2) else pinsOf σ ls

/-- An opened element is closed; where its rows have gone, it and those ahead of it are given up. -/
def isOpenC : Cell → Bool
  | .deep _ _ _ _ (some _) => true
  | _ => false
def findOpen (σ : St) : St → Option Loc
  | [] => none
  | (l, c) :: τ => bif isOpenC c && isOpenC (look σ l) then some l else findOpen σ τ
def close1 (ti : TI) (σ : St) (l : Loc) : St := match look σ l with
  | .deep e t k xs (some (i, cs)) => match (bif nodupN (refsOf (.agg cs)) && !memN l (refsOf (.agg cs)) then absC ti t cs else .fail).run σ [] (fun x _ => match x.2 with | [] => some x.1 | _ => none) with
    | some x => put σ (deads (refsOf (.agg cs)) ++ [(l, .deep e t k (xs.set i x) none)])
    | none => (l, .deep e t (i + 1) xs none) :: σ
  | _ => σ
def closeN (ti : TI) : Nat → St → St
  | 0, σ => σ
  | n + 1, σ => match findOpen σ σ with
    | some l => closeN ti n (close1 ti σ l)
    | none => σ
def isDeepSh : Sh → Bool
  | .one (.deep _ _ _) => true
  | .agg shs => shs.any fun | .deep _ _ _ => true | _ => false
  | _ => false
inductive It where
  | code (c : Code)
  | inBlock (id : Nat)
  | inLoop (u : Option Nat) (body : Code)

abbrev Kn (R : Type) := Nat → Exit → St → Option R

def firstId : Code → Nat
  | .region id _ _ => id
  | .seq a _ => firstId a
  | .block _ b => firstId b
  | .loop b => firstId b
  | _ => 9999

/-- Over a label: in its fixed form, one round less. -/
def crossC (ti : TI) (rec : List It → St → Option R) (sh : List (Nat × Sh)) (stack : List It) (σ : St) : Option R :=
  match normS ti σ sh (pinsOf σ pinL).1 33 with
  | some (τ, _, new) => bif Nat.ble new 131071 then rec stack (τ ++ (pinsOf σ pinL).2) else none
  | none => none
def cross (ti : TI) (rec : List It → St → Option R) (sh : List (Nat × Sh)) (stack : List It) (σ : St) : Option R :=
  bif sh.any (fun p => isDeepSh p.2) then crossC ti rec sh stack (closeN ti 4 σ) else crossC ti rec sh stack σ

def seqK (κ : Kn R) (next : Nat → St → Option R) : Kn R := fun tick e σ => match e with
  | .normal => next tick σ
  | e => κ tick e σ

def blockK (id : Nat) (κ : Kn R) : Kn R := fun tick e σ => match e with
  | .exit j => bif Nat.beq j id then κ tick .normal σ else κ tick (.exit j) σ
  | e => κ tick e σ

def iterN (run : Nat → St → List It → Kn R → Option R) (body : Code) (stack : List It) (κ : Kn R) : Nat → Nat → St → Option R
  | 0, _, _ => none
  | n + 1, tick, σ => run tick σ (.inLoop (some n) body :: stack) (seqK κ (iterN run body stack κ n))

def runCode (ti : TI) (env : Env) (N : Nat) (hs : Hints) (rec : List It → St → Option R) (k : Nat) : Code → Nat → St → List It → Kn R → Option R
  | .skip, tick, σ, _, κ => κ tick .normal σ
  | .region id ops draw, tick, σ, stack, κ => match hs.at id with
    | some (.lab sh) => cross ti rec sh (.code (.region id ops draw) :: stack) σ
    | _ => runRegion ti env N k tick ops draw σ fun σ' => κ (tick + 1) .normal σ'
  | .seq a b, tick, σ, stack, κ => runCode ti env N hs rec k a tick σ (.code b :: stack) (seqK κ fun tick' σ' => runCode ti env N hs rec k b tick' σ' stack κ)
  | .cond c a b, tick, σ, stack, κ => (opd c).run σ [] fun v _ => match v with
    | .bool z => bif z then runCode ti env N hs rec k a tick σ stack κ else runCode ti env N hs rec k b tick σ stack κ
    | _ => none
  | .block id body, tick, σ, stack, κ => runCode ti env N hs rec k body tick σ (.inBlock id :: stack) (blockK id κ)
  | .loop body, tick, σ, stack, κ => match hs.at (1000 + firstId body) with
    | some (.lab sh) => cross ti rec sh (.inLoop none body :: stack) σ
    | some (.unr n) => iterN (runCode ti env N hs rec k body) body stack κ n tick σ
    | none => none
  | .exit id, tick, σ, _, κ => κ tick (.exit id) σ
  | .ret, tick, σ, _, κ => κ tick .ret σ
  | _, _, _, _, _ => none

/-- What follows, by the stack of what is left to do. -/
def resume (ti : TI) (env : Env) (N : Nat) (hs : Hints) (rec : List It → St → Option R) (k : Nat) (fin : St → Option R) : List It → Kn R
  | [] => fun _ e σ => match e with
    | .normal => fin σ
    | .ret => fin σ
    | _ => none
  | .code c :: st => seqK (resume ti env N hs rec k fin st) fun tick σ => runCode ti env N hs rec k c tick σ st (resume ti env N hs rec k fin st)
  | .inBlock id :: st => blockK id (resume ti env N hs rec k fin st)
  | .inLoop none body :: st => seqK (resume ti env N hs rec k fin st) fun _ σ => match hs.at (1000 + firstId body) with
    | some (.lab sh) => cross ti rec sh (.inLoop none body :: st) σ
    | _ => none
  | .inLoop (some n) body :: st => seqK (resume ti env N hs rec k fin st) fun tick σ => iterN (runCode ti env N hs rec k body) body st (resume ti env N hs rec k fin st) n tick σ

/-- The machine at a label, with k rounds to spend. -/
def exec (ti : TI) (env : Env) (N : Nat) (hs : Hints) (fin : St → Option R) : Nat → List It → St → Option R
  | 0, _, _ => none
  | k + 1, stack, σ => match stack with
    | .code (.region _ ops draw) :: st => runRegion ti env N k 1 ops draw σ fun σ' => resume ti env N hs (exec ti env N hs fin k) k fin st 2 .normal σ'
    | .inLoop none body :: st => runCode ti env N hs (exec ti env N hs fin k) k body 1 σ (.inLoop none body :: st) (resume ti env N hs (exec ti env N hs fin k) k fin (.inLoop none body :: st))
    | _ => none

/-- The whole function. -/
def runFn (ti : TI) (env : Env) (N : Nat) (hs : Hints) (fin : St → Option R) (k : Nat) (body : Code) (σ : St) : Option R :=
  runCode ti env N hs (exec ti env N hs fin k) k body 1 σ [] (resume ti env N hs (exec ti env N hs fin k) k fin [])

/-- The stack at a label, told by a path: the code's place in the body. -/
inductive Dir where
  | l | r | b | lb (u : Option Nat) | t | e

def stackAt : List Dir → Code → List It → List It
  | [], c, st => .code c :: st
  | .l :: p, .seq a b, st => stackAt p a (.code b :: st)
  | .r :: p, .seq _ b, st => stackAt p b st
  | .t :: p, .cond _ a _, st => stackAt p a st
  | .e :: p, .cond _ _ b, st => stackAt p b st
  | .b :: p, .block id c, st => stackAt p c (.inBlock id :: st)
  | [.lb none], .loop c, st => .inLoop none c :: st
  | .lb u :: p, .loop c, st => stackAt p c (.inLoop u c :: st)
  | _, _, st => st

/-! the results -/
def outT (ti : TI) (own : Bool) (σ : St) : (t : Ty) → List AVal → List Loc → Option (T t × List AVal × List Loc)
  | .pair a b, cs, used => match outT ti own σ a cs used with
    | some (x, cs', used') => match outT ti own σ b cs' used' with
      | some (y, cs'', used'') => some ((x, y), cs'', used'')
      | none => none
    | none => none
  | .slice e t, c :: cs, used => match c with
    | .nilslc => some (([] : List (T t)), cs, used)
    | .slc e' t' xs => bif own then none else bif Nat.beq e' e then match encRow t t' xs with | some ys => some (ys, cs, used) | none => none else none
    | .vslc e' t' xs n => bif own then none else bif Nat.beq e' e then match encRow t t' (xs.take n) with | some ys => some (ys, cs, used) | none => none else none
    | .ref l n => match rowOf ti t e (look σ l) with
      | some (m, xs) => bif own then (bif m && !memN l used then some (seen n xs, cs, l :: used) else none) else some (seen n xs, cs, used)
      | none => none
    | _ => none
  | .vslice e t, c :: cs, used => match c with
    | .nilslc => some ((([], 0) : List (T t) × Nat), cs, used)
    | .ref l n => match rowOf ti t e (look σ l) with
      | some (m, xs) => bif own && m && !memN l used then some ((xs, n.getD xs.length), cs, l :: used) else none
      | none => none
    | _ => none
  | .int k, c :: cs, used => match enc1 (.int k) c with | some x => some (x, cs, used) | none => none
  | .bool, c :: cs, used => match enc1 .bool c with | some x => some (x, cs, used) | none => none
  | .str, c :: cs, used => match enc1 .str c with | some x => some (x, cs, used) | none => none
  | _, [], _ => none

def isAggA : AVal → Bool
  | .agg _ => true
  | _ => false

def resCells (ti : TI) (σ : St) : List ResultVar → List (Ty × Bool) → Option (List AVal)
  | [], [] => some []
  | .tmp t :: r, (ty, g) :: q => match look σ (tmpL t) with
    | .val v => bif cellsOk v && (boolEq (isAggA v) g && Nat.beq (asCells v).length (sz ty)) then match resCells ti σ r q with
      | some cs => some (asCells v ++ cs)
      | none => none else none
    | _ => none
  | .cell p t :: r, (ty, g) :: q => match look σ (tmpL p) with
    | .val (.ptr l off) => match look σ l with
      | .mem _ _ cs => bif Nat.beq off 0 && ((ti.at t).ud.kn && (boolEq (ti.at t).ud.agg g && (Nat.beq cs.length (sz (ti.at t).ty) && (Nat.beq (sz ty) (sz (ti.at t).ty) && (g || Nat.beq (sz ty) 1))))) then match resCells ti σ r q with
        | some ds => some (cs ++ ds)
        | none => none else none
      | _ => none
    | _ => none
  | _, _ => none

def isRefA : AVal → Bool
  | .ref _ _ => true
  | _ => false

/-- A literal in whose cells own rows lie: these are given away, and it is told by contents. -/
def flatO (ti : TI) (σ : St) (l : Loc) (e : TypeId) (cs : List AVal) : St :=
  let ls := refsOf (.agg cs)
  let σ' := put σ (ls.map fun l' => (l', freeze (look σ l')))
  bif memN l ls then σ else match (snaps0 ti cs).run σ' [] fun ds _ => some ds with
    | some ds => (l, .mem true e ds) :: σ'
    | none => σ

def flats (ti : TI) : List AVal → St → St
  | [], σ => σ
  | c :: cs, σ => flats ti cs (match c with
    | .ref l _ => match look σ l with
      | .mem true e ds => bif ds.any isRefA then flatO ti σ l e ds else σ
      | _ => σ
    | _ => σ)

def finT (ti : TI) (own : Bool) (rvs : List ResultVar) (rts : List (Ty × Bool)) (rt : Ty) (σ : St) : Option (T rt) :=
  match resCells ti σ rvs rts with
  | some cs => match outT ti own (flats ti cs σ) rt cs [] with
    | some (x, [], _) => some x
    | _ => none
  | none => none

/-- Results with all the rows in them. -/
def finD (ti : TI) (rvs : List ResultVar) (rts : List (Ty × Bool)) (rt : Ty) (σ : St) : Option (T rt) :=
  match resCells ti σ rvs rts with
  | some cs => bif nodupN (refsOf (.agg cs)) then (absC ti rt cs).run σ [] (fun x _ => match x.2 with | [] => some x.1 | _ => none) else none
  | none => none

/-- The state in which a function begins. -/
def initS : Nat → List AVal → St
  | _, [] => []
  | i, v :: vs => (tmpL i, .val v) :: initS (i + 1) vs

end machine
end Go.Proofs.YtchdegcfohegfaaE
