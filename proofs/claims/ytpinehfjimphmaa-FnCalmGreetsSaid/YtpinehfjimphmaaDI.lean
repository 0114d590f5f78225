/- A small machine of values for the loaded programs: its words (no proof yet). -/
import Derived.WalkKit
import Derived.Orders
import Derived.Laws.BytesArg
namespace Go.Proofs.Ytpinehfjimphmaa.DI
open Go
/-- What a cell, a row's element or a tuple holds. -/
inductive Ty where | unit | int (k : IntKind) | bool | str | sl (e : Nat) (t : Ty) | two (a b : Ty)
deriving DecidableEq
@[reducible] def Ty.den : Ty → Type
  | .unit => Unit | .int _ => Int | .bool => Bool | .str => ByteArray | .sl _ t => List t.den | .two a b => a.den × b.den
structure Cell where
  t : Ty
  v : t.den
/-- One cell's value. -/
inductive AV where
  | undef | int (k : IntKind) (n : Int) | bool (b : Bool) | str (s : ByteArray) | whole (r : Nat) | cut (r off len : Nat) | nils | bptr (b off : Nat) | eptr (r i off : Nat) | fn (f : Nat) (c : List (Nat × Nat))
inductive DV where | at (x : AV) | agg (l : List AV) | tup (l : List (Bool × List AV))
inductive Obj where
  | box (t : Nat) (c : List AV)
  | row (e : Nat) (t : Ty) (own : Bool) (l : List t.den)
  | deep (e : Nat) (t : Ty) (l : List t.den) (h : Option (Nat × Nat × Nat))
  | dead
structure DS where
  tm : Nat → DV
  ob : Nat → Option Obj
def upd {α : Type} (f : Nat → α) (i : Nat) (x : α) : Nat → α := fun j => bif Nat.beq j i then x else f j
def updL (f : Nat → Option Obj) : List (Nat × Obj) → Nat → Option Obj
  | [] => f
  | p :: r => updL (upd f p.1 (some p.2)) r
/-- What an operation does: its value, what becomes of objects, and the objects that it looked at. -/
structure Dl where
  v : DV
  w : List (Nat × Obj)
  tc : List Nat
def DS.app (s : DS) (dst : Option Nat) (d : Dl) : DS :=
  ⟨match dst with | some i => upd s.tm i d.v | none => s.tm, updL s.ob d.w⟩
/-- Types, as far as they matter. -/
inductive TK where | num (k : IntKind) | bool | str | sl (e : Nat) | st (f : List (Nat × Nat)) | other | arr (e : Nat) (k : IntKind) (n : Nat)
def TK.isStr : TK → Bool | .str => true | _ => false
structure TI where
  k : TK
  sz : Nat
  bytes : Nat
  z : List AV
  ty : Ty
def TI.agg (i : TI) : Bool := match i.k with | .st _ => true | .arr _ _ _ => true | _ => false
/-- An array of numbers. -/
def TI.arr (i : TI) : Option IntKind := match i.k with | .arr _ k _ => some k | _ => none
def AV.ofV : Value → AV
  | .int k n => .int k n | .bool b => .bool b | .string s => .str s | .slice none 0 0 => .nils | _ => .undef
def DV.ofV : Value → DV
  | .agg cs => .agg (cs.toList.map AV.ofV) | v => .at (AV.ofV v)
def ev (s : DS) : Operand → DV
  | .tmp t => s.tm t | .const v => DV.ofV v | .func f => .at (.fn f []) | .global _ => .at .undef
def AV.ok : AV → Bool | .undef => false | _ => true
def DV.cells : DV → Option (List AV) | .at .undef => none | .at x => some [x] | .agg l => some l | .tup _ => none
/-- The cells of an element. -/
def Ty.cells : (t : Ty) → t.den → List Cell
  | .unit, _ => []
  | .two a b, x => Ty.cells a x.1 ++ Ty.cells b x.2
  | t, x => [⟨t, x⟩]
def Ty.size : Ty → Nat | .unit => 0 | .two a b => a.size + b.size | _ => 1
/-- A value of a cell's type out of what a slot holds. -/
def castL {e e' : Nat} {t t' : Ty} (h : e' = e ∧ t' = t) (l : List t'.den) : List t.den := h.2 ▸ l
def ofAV (ob : Nat → Option Obj) : (t : Ty) → AV → Option t.den
  | .int k, .int k' n => if k' = k then some n else none
  | .bool, .bool b => some b
  | .str, .str s => some s
  | .sl _ _, .nils => some []
  | .sl e t, .whole r => match ob r with
    | some (.row e' t' _ l) => if h : e' = e ∧ t' = t then some (castL h l) else none
    | _ => none
  | .sl e t, .cut r off len => match ob r with
    | some (.row e' t' _ l) => if h : e' = e ∧ t' = t then some (((castL h l).drop off).take len) else none
    | _ => none
  | _, _ => none
def ofAVs (ob : Nat → Option Obj) : (t : Ty) → List AV → Option t.den
  | .two a b, x :: r => (ofAV ob a x).bind fun y => (ofAVs ob b r).bind fun z => some (y, z)
  | .unit, [] => some ()
  | .two _ _, [] => none
  | .unit, _ :: _ => none
  | t, [x] => ofAV ob t x
  | _, _ => none
/-- The rows that a cell's value looks at. -/
def AV.ids : AV → List Nat | .whole r => [r] | .cut r _ _ => [r] | _ => []
def idsOf (l : List AV) : List Nat := l.flatMap AV.ids
/-- Rows that were the call's own are given away: they are written no more. -/
def freeze (ob : Nat → Option Obj) (l : List AV) : List (Nat × Obj) :=
  (idsOf l).filterMap fun r => match ob r with
    | some (.row e t true l) => some (r, .row e t false l)
    | _ => none
/-- Cells of an element as slots hold them: a slice in it is a row that is read alone. -/
def Cell.toAV (id : Nat) : Cell → AV × List (Nat × Obj)
  | ⟨.int k, n⟩ => (.int k n, []) | ⟨.bool, b⟩ => (.bool b, []) | ⟨.str, s⟩ => (.str s, [])
  | ⟨.sl e t, l⟩ => (.whole id, [(id, .row e t false l)]) | ⟨_, _⟩ => (.undef, [])
def toAVs : Nat → List Cell → List AV × List (Nat × Obj)
  | _, [] => ([], [])
  | id, c :: r => let a := c.toAV id; let b := toAVs (id + 1) r; (a.1 :: b.1, a.2 ++ b.2)
/-- A store into an element. -/
def Ty.put (ob : Nat → Option Obj) : (t : Ty) → t.den → Nat → List AV → Option t.den
  | .two a b, x, 0, v :: r => (ofAV ob a v).bind fun y => match r with
    | [] => some (y, x.2)
    | _ :: _ => (Ty.put ob b x.2 0 r).bind fun z => some (y, z)
  | .two a b, x, j + 1, v => if a.size = 1 then (Ty.put ob b x.2 j v).bind fun z => some (x.1, z) else none
  | .two _ _, _, 0, [] => none
  | .unit, _, _, _ => none
  | t, _, 0, [v] => ofAV ob t v
  | _, _, _, _ => none
def setL {α : Type} : List α → Nat → List α → List α
  | l, 0, [] => l
  | [], _, _ => []
  | _ :: r, 0, v :: vs => v :: setL r 0 vs
  | x :: r, j + 1, vs => x :: setL r j vs
def subL {α : Type} (l : List α) (off n : Nat) : List α := (l.drop off).take n
/-- The length of a slice. -/
def lenOf (s : DS) : AV → Option Nat
  | .nils => some 0
  | .whole r => match s.ob r with | some (.row _ _ _ l) => some l.length | some (.deep _ _ l _) => some l.length | _ => none
  | .cut r _ n => match s.ob r with | some (.row _ _ _ _) => some n | _ => none
  | _ => none
variable {R : Type}
def fresh1 (s : DS) (id : Nat) (x : Option R) : Option R := match s.ob id with | none => x | some _ => none
def numOp (op : BinOp) (k : IntKind) (a b : Int) (K : AV → Option R) : Option R :=
  match op with
  | .add => K (.int k (k.wrap (a + b))) | .sub => K (.int k (k.wrap (a - b))) | .mul => K (.int k (k.wrap (a * b)))
  | .quo => bif (b == 0) then none else K (.int k (k.wrap (a.tdiv b)))
  | .rem => bif (b == 0) then none else K (.int k (a.tmod b))
  | .and => K (.int k (k.wrap ((BitVec.ofInt k.bits a) &&& (BitVec.ofInt k.bits b)).toNat))
  | .or => K (.int k (k.wrap ((BitVec.ofInt k.bits a) ||| (BitVec.ofInt k.bits b)).toNat))
  | .xor => K (.int k (k.wrap ((BitVec.ofInt k.bits a) ^^^ (BitVec.ofInt k.bits b)).toNat))
  | .andNot => K (.int k (k.wrap ((BitVec.ofInt k.bits a) &&& ~~~(BitVec.ofInt k.bits b)).toNat))
  | .eql => K (.bool (a == b)) | .neq => K (.bool (a != b)) | .lss => K (.bool (decide (a < b))) | .leq => K (.bool (decide (a ≤ b)))
  | .gtr => K (.bool (decide (a > b))) | .geq => K (.bool (decide (a ≥ b)))
  | .shl | .shr => none
def shOp (op : BinOp) (k : IntKind) (a b : Int) (K : AV → Option R) : Option R :=
  bif decide (b < 0) then none else match op with
  | .shl => K (.int k (k.wrap (a * 2 ^ (min b.toNat k.bits))))
  | .shr => K (.int k (a.fdiv (2 ^ (min b.toNat k.bits))))
  | _ => none
def strOp (op : BinOp) (a b : ByteArray) (K : AV → Option R) : Option R :=
  match op with
  | .add => bif decide (a.size + b.size ≤ 140737488351232) then K (.str (a ++ b)) else none
  | .eql => K (.bool (a.toList == b.toList)) | .neq => K (.bool !(a.toList == b.toList))
  | .lss => K (.bool (Op.bytesLess a.toList b.toList)) | .leq => K (.bool (Op.bytesLess a.toList b.toList || a.toList == b.toList))
  | .gtr => K (.bool !(Op.bytesLess a.toList b.toList || a.toList == b.toList)) | .geq => K (.bool !(Op.bytesLess a.toList b.toList))
  | _ => none
/-- Two structs are alike (numbers, bools and texts alone in them). -/
def eqAV : TK → AV → AV → Option Bool
  | .num _, .int k a, .int k' b => if k = k' then some (a == b) else none
  | .bool, .bool a, .bool b => some (a == b) | .str, .str a, .str b => some (a == b) | _, _, _ => none
def eqF (tt : Nat → Option TI) (rec : Nat → List AV → List AV → Option Bool) (xs ys : List AV) : List (Nat × Nat) → Option Bool
  | [] => some true
  | p :: r => (tt p.2).bind fun tp => let u := subL xs p.1 tp.sz; let v := subL ys p.1 tp.sz
    if u.length = tp.sz ∧ v.length = tp.sz then (bif tp.agg then rec p.2 u v else match u, v with | [x], [y] => eqAV tp.k x y | _, _ => none).bind fun b =>
      match r with
      | [] => some b
      | _ :: _ => (eqF tt rec xs ys r).bind fun c => some (b && c)
    else none
def eqA (tt : Nat → Option TI) : Nat → Nat → List AV → List AV → Option Bool
  | 0, _, _, _ => none
  | n + 1, t, xs, ys => (tt t).bind fun ti => match ti.k with | .st fs => eqF tt (eqA tt n) xs ys fs | _ => none
def bin (tt : Nat → Option TI) (t : Nat) (op : BinOp) (x y : DV) (K : AV → Option R) : Option R :=
  match op, x, y with
  | .shl, .at (.int k a), .at (.int _ b) | .shr, .at (.int k a), .at (.int _ b) => shOp op k a b K
  | _, .at (.int k a), .at (.int k' b) => if k = k' then numOp op k a b K else none
  | _, .at (.str a), .at (.str b) => strOp op a b K
  | .eql, .at (.bool a), .at (.bool b) => match (tt t).map TI.k with | some .bool => K (.bool (a == b)) | _ => none
  | .neq, .at (.bool a), .at (.bool b) => match (tt t).map TI.k with | some .bool => K (.bool (!(a == b))) | _ => none
  | .eql, .agg a, .agg b => (eqA tt 5 t a b).bind fun c => K (.bool c)
  | .neq, .agg a, .agg b => (eqA tt 5 t a b).bind fun c => K (.bool (!c))
  | _, _, _ => none

/-! Contracts of callees. -/
/-- give: a row that is handed over for good; boxg: a box whose rows are handed over for good and come back new; fnp: a function with one box bound to it. -/
inductive PK where | one | agg (n : Nat) | row | box (t n : Nat) | aggw (n : Nat) (sl : List Nat) | give | boxg (t n : Nat) | fnp (g t n : Nat)
inductive RK where | one (own : Bool) | agg (n : Nat) (own : Bool) | ptr (t n : Nat) (own : Bool)
structure Ctr where
  ps : List PK
  rs : List RK
  frz : Bool
  I : Ty
  O : Ty
  run : Nat → I.den → Option O.den
/-- No row in it. -/
def Ty.plain : Ty → Bool | .sl _ _ => false | .two a b => a.plain && b.plain | _ => true
/-- A row of the call's own that no word of another's stands in: plain elements, or inner rows of its own. -/
def okOwn (ob : Nat → Option Obj) (i : Nat) : Bool := match ob i with | some (.row _ t true _) => t.plain | some (.deep _ t _ none) => !t.plain | _ => false
/-- Deep rows seen as rows. -/
def dv (ob : Nat → Option Obj) (r : Nat) : Option Obj := match ob r with | some (.deep e t l none) => some (.row e t true l) | o => o
/-- The row that a cell becomes. -/
def mkO (own : Bool) (e : Nat) (t : Ty) (l : List t.den) : Obj := bif (own && !t.plain) then .deep e t l none else .row e t own l
/-- Rows that were the call's own are given away at a call. -/
def freezeD (ob : Nat → Option Obj) (l : List AV) : List (Nat × Obj) :=
  (idsOf l).filterMap fun r => match ob r with
    | some (.row e t true l) => some (r, .row e t false l)
    | some (.deep e t l none) => some (r, .row e t false l)
    | _ => none
/-- A slot that may be handed over to be written: a row of the call's own, or no row at all. -/
def ownAV (ob : Nat → Option Obj) : AV → Bool
  | .whole i => okOwn ob i
  | .int _ _ => true | .bool _ => true | .str _ => true | _ => false
def slots : Nat → List AV → List Nat
  | _, [] => []
  | i, .whole _ :: l => i :: slots (i + 1) l
  | i, _ :: l => slots (i + 1) l
def sameL : List Nat → List Nat → Bool
  | [], [] => true
  | a :: l, b :: q => Nat.beq a b && sameL l q
  | _, _ => false
def flat (ob : Nat → Option Obj) : List PK → List DV → Option (List AV)
  | [], [] => some []
  | .one :: ps, .at x :: r => (flat ob ps r).bind fun q => some (x :: q)
  | .agg n :: ps, .agg l :: r => if l.length = n then (flat ob ps r).bind fun q => some (l ++ q) else none
  | .row :: ps, .at (.whole i) :: r => bif okOwn ob i then (flat ob ps r).bind fun q => some (.whole i :: q) else none
  | .box t n :: ps, .at (.bptr b 0) :: r => match ob b with
    | some (.box t' c) => if t' = t ∧ c.length = n then (flat ob ps r).bind fun q => some (c ++ q) else none
    | _ => none
  | .aggw n sl :: ps, .agg l :: r => if l.length = n ∧ (l.all (ownAV ob) && sameL (slots 0 l) sl) = true then (flat ob ps r).bind fun q => some (l ++ q) else none
  | .give :: ps, .at (.whole i) :: r => bif okOwn ob i then (flat ob ps r).bind fun q => some (.whole i :: q) else none
  | .boxg t n :: ps, .at (.bptr b 0) :: r => match ob b with
    | some (.box t' c) => if (t' = t ∧ c.length = n) ∧ c.all (ownAV ob) = true then (flat ob ps r).bind fun q => some (c ++ q) else none
    | _ => none
  | .fnp g t n :: ps, .at (.fn g' [(b, 0)]) :: r => match ob b with
    | some (.box t' c) => if g' = g ∧ t' = t ∧ c.length = n then (flat ob ps r).bind fun q => some (c ++ q) else none
    | _ => none
  | _, _ => none
/-- Rows that are handed over for good. -/
def gvIds (ob : Nat → Option Obj) : List PK → List DV → List Nat
  | .give :: ps, .at (.whole i) :: r => i :: gvIds ob ps r
  | .boxg _ _ :: ps, .at (.bptr b _) :: r => (match ob b with | some (.box _ c) => idsOf c | _ => []) ++ gvIds ob ps r
  | _ :: ps, _ :: r => gvIds ob ps r
  | _, _ => []
def deads : List Nat → List (Nat × Obj) := List.map fun i => (i, .dead)
/-- What is handed over to be read. -/
def flatR (ob : Nat → Option Obj) : List PK → List DV → List AV
  | .one :: ps, .at x :: r => x :: flatR ob ps r
  | .agg _ :: ps, .agg l :: r => l ++ flatR ob ps r
  | .box _ _ :: ps, .at (.bptr b 0) :: r => (match ob b with | some (.box _ c) => c | _ => []) ++ flatR ob ps r
  | .fnp _ _ _ :: ps, .at (.fn _ [(b, 0)]) :: r => (match ob b with | some (.box _ c) => c | _ => []) ++ flatR ob ps r
  | _ :: ps, _ :: r => flatR ob ps r
  | _, _ => []
def Cell.toOwn (own : Bool) (id : Nat) : Cell → AV × List (Nat × Obj)
  | ⟨.sl e t, l⟩ => (.whole id, [(id, mkO own e t l)]) | c => c.toAV id
def toOwns (own : Bool) : Nat → List Cell → List AV × List (Nat × Obj)
  | _, [] => ([], [])
  | id, c :: r => let a := c.toOwn own id; let b := toOwns own (id + 1) r; (a.1 :: b.1, a.2 ++ b.2)
structure Out where
  vs : List (Bool × List AV)
  w : List (Nat × Obj)
  id : Nat
  cs : List Cell
def outR : Nat → List RK → List Cell → Option Out
  | id, [], cs => some ⟨[], [], id, cs⟩
  | id, .one own :: rs, c :: cs => let a := c.toOwn own id; (outR (id + 1) rs cs).bind fun o => some ⟨(false, [a.1]) :: o.vs, a.2 ++ o.w, o.id, o.cs⟩
  | _, .one _ :: _, [] => none
  | id, .agg n own :: rs, cs => let a := toOwns own id (cs.take n); (outR (id + n) rs (cs.drop n)).bind fun o => some ⟨(true, a.1) :: o.vs, a.2 ++ o.w, o.id, o.cs⟩
  | id, .ptr t n own :: rs, cs => let a := toOwns own (id + 1) (cs.take n); (outR (id + 1 + n) rs (cs.drop n)).bind fun o => some ⟨(false, [.bptr id 0]) :: o.vs, (id, .box t a.1) :: (a.2 ++ o.w), o.id, o.cs⟩
/-- What the call leaves in rows and boxes that it was handed to write; new rows. -/
def outW : List Nat → List Cell → Option (List (Nat × Obj) × List Cell)
  | [], cs => some ([], cs)
  | i :: r, ⟨.sl e t, l⟩ :: cs => (outW r cs).bind fun q => some ((i, mkO true e t l) :: q.1, q.2)
  | _, _ => none
def outP : Nat → List PK → List DV → List Cell → Option (List (Nat × Obj) × List (Nat × Obj))
  | _, [], _, [] => some ([], [])
  | id, .one :: ps, _ :: r, cs => outP id ps r cs
  | id, .agg _ :: ps, _ :: r, cs => outP id ps r cs
  | id, .row :: ps, .at (.whole i) :: r, ⟨.sl e t, l⟩ :: cs => (outP id ps r cs).bind fun q => some ((i, mkO true e t l) :: q.1, q.2)
  | id, .aggw _ _ :: ps, .agg l :: r, cs => (outW (idsOf l) cs).bind fun a => (outP id ps r a.2).bind fun q => some (a.1 ++ q.1, q.2)
  | id, .box t n :: ps, .at (.bptr b 0) :: r, cs => let a := toOwns false id (cs.take n); (outP (id + n) ps r (cs.drop n)).bind fun q => some ((b, .box t a.1) :: q.1, a.2 ++ q.2)
  | id, .give :: ps, _ :: r, cs => outP id ps r cs
  | id, .boxg t n :: ps, .at (.bptr b 0) :: r, cs => let a := toOwns true id (cs.take n); (outP (id + n) ps r (cs.drop n)).bind fun q => some ((b, .box t a.1) :: q.1, a.2 ++ q.2)
  | id, .fnp _ t n :: ps, .at (.fn _ [(b, 0)]) :: r, cs => let a := toOwns false id (cs.take n); (outP (id + n) ps r (cs.drop n)).bind fun q => some ((b, .box t a.1) :: q.1, a.2 ++ q.2)
  | _, _, _, _ => none
def tupV : List (Bool × List AV) → DV
  | [(false, [x])] => .at x | [(true, l)] => .agg l | vs => .tup vs
def outIds : List (Nat × Obj) → List Nat := List.map Prod.fst
def boxIds : List PK → List DV → List Nat
  | .box _ _ :: ps, .at (.bptr b _) :: r => b :: boxIds ps r
  | .row :: ps, .at (.whole i) :: r => i :: boxIds ps r
  | .aggw _ _ :: ps, .agg l :: r => idsOf l ++ boxIds ps r
  | .boxg _ _ :: ps, .at (.bptr b _) :: r => b :: boxIds ps r
  | .fnp _ _ _ :: ps, .at (.fn _ [(b, _)]) :: r => b :: boxIds ps r
  | _ :: ps, _ :: r => boxIds ps r
  | _, _ => []
def disj : List Nat → Bool
  | [] => true
  | x :: r => !(r.any (Nat.beq x)) && disj r
/-- All these objects are new. -/
def freshB (ob : Nat → Option Obj) : List Nat → Bool
  | [] => true
  | i :: r => (match ob i with | none => true | some _ => false) && freshB ob r
def callK (s : DS) (id k : Nat) (c : Ctr) (args : List DV) (K : Dl → Option R) : Option R :=
  (flat s.ob c.ps args).bind fun avs => (ofAVs (dv s.ob) c.I avs).bind fun x =>
    bif (disj (boxIds c.ps args ++ gvIds s.ob c.ps args) && !((boxIds c.ps args ++ gvIds s.ob c.ps args).any fun i => (idsOf (flatR s.ob c.ps args)).any (Nat.beq i))) then (c.run k x).bind fun r =>
    (outR id c.rs (Ty.cells c.O r)).bind fun o => (outP o.id c.ps args o.cs).bind fun q =>
      bif (freshB s.ob (outIds (o.w ++ q.2)) && disj (outIds (o.w ++ q.2))) then
        K ⟨tupV o.vs, (bif c.frz then freezeD s.ob (flatR s.ob c.ps args) else []) ++ (deads (gvIds s.ob c.ps args) ++ (q.1 ++ (o.w ++ q.2))), idsOf avs ++ (idsOf (flatR s.ob c.ps args) ++ (boxIds c.ps args ++ (gvIds s.ob c.ps args ++ outIds (o.w ++ q.2))))⟩ else none
  else none
/-! Deep rows. -/
/-- What a deep row has lent comes back. -/
def takeBack (ob : Nat → Option Obj) (r : Nat) : Option (List (Nat × Obj)) :=
  match ob r with
  | some (.deep e t l (some (i, off, q))) => (l[i]?).bind fun y => (Ty.put ob t y off [.whole q]).bind fun z => match ob q with
    | some (.row _ t' true _) => bif t'.plain then some [(r, .deep e t (l.set i z) none), (q, .dead)] else none
    | _ => none
  | _ => some []
def takeBackK (ob : Nat → Option Obj) (r : Nat) (K : List (Nat × Obj) → Option R) : Option R :=
  match ob r with
  | some (.deep e t l (some (i, off, q))) => (l[i]?).bind fun y => (Ty.put ob t y off [.whole q]).bind fun z => match ob q with
    | some (.row _ t' true _) => bif t'.plain then K [(r, .deep e t (l.set i z) none), (q, .dead)] else none
    | _ => none
  | _ => K []
theorem takeBackK_eq (ob : Nat → Option Obj) (r : Nat) (K : List (Nat × Obj) → Option R) : takeBackK ob r K = (takeBack ob r).bind K := by
  unfold takeBackK takeBack
  split
  · rw [Option.bind_assoc]
    refine congrArg _ (funext fun y => ?_)
    rw [Option.bind_assoc]
    refine congrArg _ (funext fun z => ?_)
    split
    · rename_i t' _ _
      cases t'.plain <;> rfl
    · rfl
  · rfl
/-- The row of a deep row's objects behind that: what is written, and the ids that were looked at. -/
def backW (ob : Nat → Option Obj) (r : Nat) : Option (List (Nat × Obj)) := takeBack ob r
/-- What may be stored into a deep row's cell. -/
def takeOk (ob : Nat → Option Obj) (r : Nat) : AV → Bool
  | .int _ _ => true | .bool _ => true | .str _ => true | .nils => true
  | .whole q => !(Nat.beq q r) && (match ob q with | some (.row _ t true _) => t.plain | _ => false)
  | .cut q _ _ => !(Nat.beq q r) && (match ob q with | some (.row _ t true _) => t.plain | _ => false)
  | _ => false
/-- Two deep rows, the one appended to the other. -/
def appD (ob : Nat → Option Obj) (e : Nat) (t : Ty) : AV → AV → Option (Nat × Nat × List t.den)
  | .whole r, .whole r2 => match ob r, ob r2 with
    | some (.deep e1 t1 l1 none), some (.deep e2 t2 l2 none) => if h : (e1 = e ∧ t1 = t) ∧ (e2 = e ∧ t2 = t) then (bif Nat.beq r r2 then none else some (r, r2, castL h.1 l1 ++ castL h.2 l2)) else none
    | _, _ => none
  | _, _ => none
def hId : Option (Nat × Nat × Nat) → List Nat | some p => [p.2.2] | none => []
/-- A cell of a deep row is stored: w are the objects that were written before. -/
def storeD (ob : Nat → Option Obj) (w : List (Nat × Obj)) (r e : Nat) (t : Ty) (l : List t.den) (h : List Nat) (i off : Nat) (c : List AV) (K : Dl → Option R) : Option R :=
  match c with
  | [va] => (l[i]?).bind fun y => (Ty.put ob t y off [va]).bind fun z => bif takeOk ob r va then K ⟨.at .undef, w ++ (deads va.ids ++ [(r, .deep e t (l.set i z) none)]), r :: (va.ids ++ h)⟩ else none
  | _ => none
/-! Operations. -/
def intsOf (k : IntKind) : List AV → Option (List Int)
  | [] => some []
  | .int k' n :: r => if k' = k then (intsOf k r).bind fun q => some (n :: q) else none
  | _ :: _ => none
def TI.lenA (i : TI) : Option Nat := match i.k with | .arr _ _ n => some n | _ => none
def zeroI (n : Nat) : List Int := List.replicate n 0
structure Cx where
  tt : Nat → Option TI
  env : Nat → Option Ctr
def fillL : List AV → Nat → List AV → Option (List AV)
  | l, off, vs => if off + vs.length ≤ l.length then some (setL l off vs) else none
def buildP (cx : Cx) (fs : List (Nat × Nat)) (s : DS) : List AV → List (Nat × Operand) → Option (List AV)
  | z, [] => some z
  | z, (i, x) :: r => (fs[i]?).bind fun p => (cx.tt p.2).bind fun ti => (ev s x).cells.bind fun c => if c.length = ti.sz then (fillL z p.1 c).bind fun z' => buildP cx fs s z' r else none
def mapO {α β : Type} (f : α → Option β) : List α → Option (List β)
  | [] => some []
  | x :: r => (f x).bind fun y => (mapO f r).bind fun ys => some (y :: ys)
def rowOf (s : DS) (e : Nat) (t : Ty) : AV → Option (List t.den × List Nat)
  | x => (ofAV s.ob (.sl e t) x).bind fun l => some (l, x.ids)
def natOf : DV → Option Int | .at (.int _ n) => some n | _ => none
def sameO : Operand → Operand → Bool
  | .tmp a, .tmp b => Nat.beq a b | .const (.int .i64 a), .const (.int .i64 b) => a == b | _, _ => false
def isBox (s : DS) (b : Nat) : Bool := match s.ob b with | some (.box _ _) => true | _ => false
def isRow (s : DS) (b : Nat) : Bool := match s.ob b with | some (.row _ _ _ _) => true | some (.deep _ _ _ _) => true | _ => false
/-- The size of a slice type's elements. -/
def szE (cx : Cx) (t : Nat) : Option Nat := (cx.tt t).bind fun ti => match ti.k with | .sl e => (cx.tt e).bind fun te => some te.sz | _ => none
/-- The type number of bytes, of a slice of bytes. -/
def byteE (cx : Cx) (ti : TI) : Option Nat := match ti.k with
  | .sl e => (cx.tt e).bind fun te => match te.k with | .num .u8 => some e | _ => none
  | _ => none
/-- A text's bytes as numbers. -/
def numsOf (b : ByteArray) : List Int := b.data.toList.map fun c => (c.toNat : Int)
def opK (cx : Cx) (k id : Nat) (o : Op) (s : DS) (K : Dl → Option R) : Option R :=
  match o with
  | .move x | .assign x => K ⟨ev s x, [], []⟩
  | .pick c a b => match ev s c with | .at (.bool t) => bif t then K ⟨ev s a, [], []⟩ else K ⟨ev s b, [], []⟩ | _ => none
  | .alloc t => (cx.tt t).bind fun ti => match ti.arr with
    | some ik => fresh1 s id (K ⟨.at (.eptr id 0 0), [(id, .row t (.int ik) true (zeroI ti.sz))], [id]⟩)
    | none => fresh1 s id (K ⟨.at (.bptr id 0), [(id, .box t ti.z)], [id]⟩)
  | .box t x => (cx.tt t).bind fun ti => (ev s x).cells.bind fun c =>
    if c.length = ti.sz then fresh1 s id (K ⟨.at (.bptr id 0), [(id, .box t c)], [id]⟩) else none
  | .load t a => (cx.tt t).bind fun ti => match ev s a with
    | .at (.bptr b off) => match s.ob b with
      | some (.box _ c) => let p := subL c off ti.sz
        if p.length = ti.sz then (bif ti.agg then K ⟨.agg p, [], [b]⟩ else match p with | [x] => K ⟨.at x, [], [b]⟩ | _ => none) else none
      | _ => none
    | .at (.eptr r i off) => match s.ob r with
      | some (.row _ rt _ l) => (l[i]?).bind fun x => let a := toAVs id (subL (Ty.cells rt x) off ti.sz)
        if a.1.length = ti.sz then (bif freshB s.ob (outIds a.2) then (bif ti.agg then K ⟨.agg a.1, a.2, r :: outIds a.2⟩ else match a.1 with | [v] => K ⟨.at v, a.2, r :: outIds a.2⟩ | _ => none) else none) else none
      | some (.deep _ _ _ h0) => match ti.k with
        | .sl _ => if ti.sz = 1 then takeBackK s.ob r fun wb => match updL s.ob wb r with
          | some (.deep e rt l none) => (l[i]?).bind fun y => match (Ty.cells rt y)[off]? with
            | some ⟨.sl e' t', q⟩ => (Ty.put s.ob rt y off [.nils]).bind fun z => bif t'.plain then fresh1 s id (K ⟨.at (.whole id), wb ++ [(r, .deep e rt (l.set i z) (some (i, off, id))), (id, .row e' t' true q)], r :: id :: hId h0⟩) else none
            | _ => none
          | _ => none
          else none
        | _ => none
      | _ => none
    | _ => none
  | .store t a x => (cx.tt t).bind fun ti => (ev s x).cells.bind fun c =>
    if c.length = ti.sz ∧ c.all AV.ok = true then match ti.arr with
    | some ik => match ev s a with
      | .at (.eptr r 0 0) => match s.ob r with
        | some (.row e (.int ik') true l) => if ik' = ik ∧ (l : List Int).length = ti.sz then (intsOf ik' c).bind fun q => K ⟨.at .undef, [(r, .row e (.int ik') true q)], [r]⟩ else none
        | _ => none
      | _ => none
    | none => match ev s a with
    | .at (.bptr b off) => match s.ob b with
      | some (.box bt bc) => if off + c.length ≤ bc.length then K ⟨.at .undef, [(b, .box bt (setL bc off c))], [b]⟩ else none
      | _ => none
    | .at (.eptr r i off) => match s.ob r with
      | some (.row e rt true l) => (l[i]?).bind fun y => (Ty.put s.ob rt y off c).bind fun z => bif (idsOf c).any (Nat.beq r) then none else K ⟨.at .undef, freeze s.ob c ++ [(r, .row e rt true (l.set i z))], r :: idsOf c⟩
      | some (.deep e rt l none) => storeD s.ob [] r e rt l [] i off c K
      | some (.deep e rt l (some (i0, off0, q0))) => bif (Nat.beq off off0 && Nat.beq i i0) then storeD s.ob [] r e rt l [q0] i off c K
        else takeBackK s.ob r fun wb => match updL s.ob wb r with
          | some (.deep e' rt' l' none) => storeD (updL s.ob wb) wb r e' rt' l' [q0] i off c K
          | _ => none
      | _ => none
    | _ => none
    else none
  | .nilCheck x => match ev s x with
    | .at (.bptr b f) => bif isBox s b then K ⟨.at (.bptr b f), [], [b]⟩ else none
    | .at (.eptr r i f) => bif isRow s r then K ⟨.at (.eptr r i f), [], [r]⟩ else none
    | _ => none
  | .binOp op t x y _ => bin cx.tt t op (ev s x) (ev s y) fun v => K ⟨.at v, [], []⟩
  | .unOp .not _ x => match ev s x with | .at (.bool b) => K ⟨.at (.bool (!b)), [], []⟩ | _ => none
  | .unOp .neg _ x => match ev s x with | .at (.int k n) => K ⟨.at (.int k (k.wrap (0 - n))), [], []⟩ | _ => none
  | .convert t0 t x => (cx.tt t0).bind fun t0i => (cx.tt t).bind fun ti => match ti.k, ev s x with
    | .num k, .at (.int _ n) => K ⟨.at (.int k (k.wrap n)), [], []⟩
    | .str, .at (.str b) => K ⟨.at (.str b), [], []⟩
    | .str, .at a => (byteE cx t0i).bind fun e => (rowOf s e (.int .u8) a).bind fun q => K ⟨.at (.str (strOfNums q.1)), [], q.2⟩
    | .sl e, .at (.str b) => (byteE cx ti).bind fun e' => if e' = e then bif t0i.k.isStr then fresh1 s id (K ⟨.at (.whole id), [(id, .row e (.int .u8) true (numsOf b))], [id]⟩) else none else none
    | _, _ => none
  | .fieldAddr t x f => (cx.tt t).bind fun ti => match ti.k, ev s x with
    | .st fs, .at (.bptr b off) => (fs[f]?).bind fun p => bif isBox s b then K ⟨.at (.bptr b (off + p.1)), [], [b]⟩ else none
    | .st fs, .at (.eptr r i off) => (fs[f]?).bind fun p => bif isRow s r then K ⟨.at (.eptr r i (off + p.1)), [], [r]⟩ else none
    | _, _ => none
  | .field t x f => (cx.tt t).bind fun ti => match ti.k, ev s x with
    | .st fs, .agg l => (fs[f]?).bind fun p => (cx.tt p.2).bind fun tp => let q := subL l p.1 tp.sz
      if q.length = tp.sz then (bif tp.agg then K ⟨.agg q, [], []⟩ else match q with | [v] => K ⟨.at v, [], []⟩ | _ => none) else none
    | _, _ => none
  | .extract x i => match ev s x with
    | .tup vs => match vs[i]? with
      | some (false, [v]) => K ⟨.at v, [], []⟩
      | some (true, l) => K ⟨.agg l, [], []⟩
      | _ => none
    | _ => none
  | .build t ps => (cx.tt t).bind fun ti => match ti.k with
    | .st fs => (buildP cx fs s ti.z ps.toList).bind fun c => K ⟨.agg c, [], []⟩
    | .arr e _ n => (buildP cx ((List.range n).map fun i => (i, e)) s ti.z ps.toList).bind fun c => K ⟨.agg c, [], []⟩
    | _ => none
  | .buildSlice t n ps => (cx.tt t).bind fun ti => match ti.k with
    | .sl e => (cx.tt e).bind fun te => if ps.toList.map (·.1) = List.range n ∧ n * te.sz ≤ 16777216 then (mapO (fun p => (ev s p.2).cells) ps.toList).bind fun cs =>
      (mapO (fun c => if c.length = te.sz then ofAVs s.ob te.ty c else none) cs).bind fun l =>
      bif (te.ty.plain || !(cs.flatten.all (takeOk s.ob id) && disj (idsOf cs.flatten))) then fresh1 s id (K ⟨.at (.whole id), freeze s.ob cs.flatten ++ [(id, .row e te.ty true l)], id :: idsOf cs.flatten⟩)
      else fresh1 s id (K ⟨.at (.whole id), deads (idsOf cs.flatten) ++ [(id, .deep e te.ty l none)], id :: idsOf cs.flatten⟩) else none
    | _ => none
  | .makeSlice t n c => (cx.tt t).bind fun ti => match ti.k, ev s n with
    | .sl e, .at (.int _ m) => if sameO n c = true then (cx.tt e).bind fun te => (ofAVs s.ob te.ty te.z).bind fun z =>
      bif (decide (0 ≤ m) && decide (m * te.bytes ≤ 140737488355328)) then fresh1 s id (K ⟨.at (.whole id), [(id, .row e te.ty true (List.replicate m.toNat z))], id :: idsOf te.z⟩) else none else none
    | _, _ => none
  | .slice t x lo hi none => match ev s x with
    | .at (.str b) => (cx.tt t).bind fun ti => match ti.k with
     | .str =>
      match lo, hi with
      | none, some h => (natOf (ev s h)).bind fun h => bif (decide (0 ≤ h) && decide (h ≤ b.size)) then K ⟨.at (.str (b.extract 0 h.toNat)), [], []⟩ else none
      | some l, none => (natOf (ev s l)).bind fun l => bif (decide (0 ≤ l) && decide (l ≤ b.size)) then K ⟨.at (.str (b.extract l.toNat b.size)), [], []⟩ else none
      | some l, some h => (natOf (ev s l)).bind fun l => (natOf (ev s h)).bind fun h => bif (decide (0 ≤ l) && (decide (l ≤ h) && decide (h ≤ b.size))) then K ⟨.at (.str (b.extract l.toNat h.toNat)), [], []⟩ else none
      | none, none => K ⟨.at (.str b), [], []⟩
     | _ => none
    | .at (.whole r) => (szE cx t).bind fun z => match s.ob r with
      | some (.row e t own l) => if t.size = z then
        match lo, hi with
        | none, some h => (natOf (ev s h)).bind fun h => bif (decide (0 ≤ h) && decide (h ≤ l.length)) then (bif own then K ⟨.at (.cut r 0 h.toNat), [], [r]⟩ else fresh1 s id (K ⟨.at (.whole id), [(id, .row e t false (l.take h.toNat))], [r, id]⟩)) else none
        | some lo, none => (natOf (ev s lo)).bind fun a => bif (decide (0 ≤ a) && decide (a ≤ l.length)) then (bif own then K ⟨.at (.cut r a.toNat (l.length - a.toNat)), [], [r]⟩ else fresh1 s id (K ⟨.at (.whole id), [(id, .row e t false (l.drop a.toNat))], [r, id]⟩)) else none
        | some lo, some h => (natOf (ev s lo)).bind fun a => (natOf (ev s h)).bind fun h => bif (decide (0 ≤ a) && (decide (a ≤ h) && decide (h ≤ l.length))) then (bif own then K ⟨.at (.cut r a.toNat (h.toNat - a.toNat)), [], [r]⟩ else fresh1 s id (K ⟨.at (.whole id), [(id, .row e t false ((l.drop a.toNat).take (h.toNat - a.toNat)))], [r, id]⟩)) else none
        | none, none => K ⟨.at (.whole r), [], [r]⟩
        else none
      | _ => none
    | _ => none
  | .indexAddr t x i => match (cx.tt t).bind TI.lenA with
   | some m => match ev s x, ev s i with
    | .at (.eptr r 0 0), .at (.int _ n) => match s.ob r with
      | some (.row _ rt _ l) => if rt.size = 1 then bif (decide (0 ≤ n) && (decide (n < l.length) && decide (n < (m : Int)))) then K ⟨.at (.eptr r n.toNat 0), [], [r]⟩ else none else none
      | _ => none
    | _, _ => none
   | none => (szE cx t).bind fun z => match ev s x, ev s i with
    | .at (.whole r), .at (.int _ n) => match s.ob r with
      | some (.row _ rt _ l) => if rt.size = z then bif (decide (0 ≤ n) && decide (n < l.length)) then K ⟨.at (.eptr r n.toNat 0), [], [r]⟩ else none else none
      | some (.deep _ rt l _) => if rt.size = z then bif (decide (0 ≤ n) && decide (n < l.length)) then K ⟨.at (.eptr r n.toNat 0), [], [r]⟩ else none else none
      | _ => none
    | .at (.cut r off m), .at (.int _ n) => match s.ob r with
      | some (.row _ rt _ _) => if rt.size = z then bif (decide (0 ≤ n) && decide (n < m)) then K ⟨.at (.eptr r (off + n.toNat) 0), [], [r]⟩ else none else none
      | _ => none
    | _, _ => none
  | .index t x i => (cx.tt t).bind fun ti => match ti.k, ev s x, ev s i with
    | .str, .at (.str b), .at (.int _ n) => bif decide (0 ≤ n) then (b[n.toNat]?).bind fun c => K ⟨.at (.int .u8 c.toNat), [], []⟩ else none
    | _, _, _ => none
  | .makeFunc fn f0 c => match fn, f0.toList with
    | .func f, [] => (mapO (fun x => match ev s x with | .at (.bptr b off) => some (b, off) | _ => none) c.toList).bind fun c => K ⟨.at (.fn f c), [], []⟩
    | _, _ => none
  | .call c => match c.callee with
    | .builtin .len => match c.args.toList, c.argTypes.toList with
      | [x], [t] => (cx.tt t).bind fun ti => match ti.k, ev s x with
        | .str, .at (.str b) => K ⟨.at (.int .i64 b.size), [], []⟩
        | .sl _, .at a => (lenOf s a).bind fun n => K ⟨.at (.int .i64 n), [], a.ids⟩
        | _, _ => none
      | _, _ => none
    | .builtin .min => match c.args.toList.map (ev s) with
      | [.at (.int k a), .at (.int _ b)] => K ⟨.at (.int k (bif decide (b < a) then b else a)), [], []⟩
      | _ => none
    | .builtin .clear => match c.args.toList, c.argTypes.toList with
      | [x], [t] => (cx.tt t).bind fun ti => match ti.k, ev s x with
        | .sl e, .at (.cut r off n) => (cx.tt e).bind fun te => match s.ob r with
          | some (.row e' t' true l) => if h : e' = e ∧ t' = te.ty then (ofAVs s.ob te.ty te.z).bind fun z => K ⟨.at .undef, [(r, .row e te.ty true ((castL h l).take off ++ (List.replicate n z ++ (castL h l).drop (off + n))))], r :: idsOf te.z⟩ else none
          | _ => none
        | _, _ => none
      | _, _ => none
    | .builtin .append => match c.argTypes.toList, c.args.toList with
      | [t, t'], [x, y] => if t' = t then (cx.tt t).bind fun ti => match ti.k with
        | .sl e => (cx.tt e).bind fun te => match ev s x, ev s y with
          | .at xa, .at ya => match appD s.ob e te.ty xa ya with
           | some (r, r2, l) => bif decide (l.length * te.bytes ≤ 140737488355328) then fresh1 s id (K ⟨.at (.whole id), [(r, .dead), (r2, .dead), (id, .deep e te.ty l none)], [id, r, r2]⟩) else none
           | none => (rowOf s e te.ty ya).bind fun q => match xa with
            | .nils => bif decide (q.1.length * te.bytes ≤ 140737488355328) then fresh1 s id (K ⟨.at (.whole id), [(id, .row e te.ty true q.1)], id :: q.2⟩) else none
            | .whole r => bif q.2.any (Nat.beq r) then none else match s.ob r with
              | some (.row e' t' true l) => if h : e' = e ∧ t' = te.ty then bif decide ((l.length + q.1.length) * te.bytes ≤ 140737488355328) then fresh1 s id (K ⟨.at (.whole id), [(r, .dead), (id, .row e te.ty true (castL h l ++ q.1))], id :: r :: q.2⟩) else none else none
              | _ => none
            | _ => none
          | _, _ => none
        | _ => none
        else none
      | _, _ => none
    | .value f => match ev s f with
      | .at (.fn g bs) => (cx.env g).bind fun ctr => callK s id k ctr (c.args.toList.map (ev s) ++ bs.map fun p => .at (.bptr p.1 p.2)) K
      | _ => none
    | _ => none
  | _ => none
/-- A region's operations in the order of the text. -/
def putB (s : DS) (t : Nat) (b : Bool) : DS := ⟨upd s.tm t (.at (.bool b)), s.ob⟩
def opsK (cx : Cx) (k base : Nat) (ops : Array Oper) : List Oper → DS → (DS → Option R) → Option R
  | [], s, K => K s
  | o :: r, s, K =>
    match o.guard with
    | none => opK cx k ((base + o.dst.getD 0) * 16) o.op s fun d => opsK cx k base ops r (s.app o.dst d) K
    | some (j, want) => match (ops[j]?).bind (·.dst) with
      | some t => match s.tm t with
        | .at (.bool b) =>
          bif b then
            (bif want then opK cx k ((base + o.dst.getD 0) * 16) o.op (putB s t true) fun d => opsK cx k base ops r ((putB s t true).app o.dst d) K
            else opsK cx k base ops r ((putB s t true).app o.dst ⟨.tup [], [], []⟩) K)
          else
            (bif want then opsK cx k base ops r ((putB s t false).app o.dst ⟨.tup [], [], []⟩) K
            else opK cx k ((base + o.dst.getD 0) * 16) o.op (putB s t false) fun d => opsK cx k base ops r ((putB s t false).app o.dst d) K)
        | .tup [] => opsK cx k base ops r (s.app o.dst ⟨.tup [], [], []⟩) K
        | _ => none
      | none => none
/-! A region that draws its order: whatever is not ordered must not meet. -/
structure Lg where
  i : Nat
  w : List Nat
  tc : List Nat
def apartI (x y : List Nat) : Bool := !(x.any fun i => y.any (Nat.beq i))
def compat (g h : Lg) : Bool := apartI g.w h.tc && (apartI h.w g.tc && apartI g.w h.w)
def ancB (acc : List Nat) : List Edge → Nat
  | [] => 0
  | e :: r => if Region.binds .any e then (2 ^ e.on ||| acc.getD e.on 0) ||| ancB acc r else ancB acc r
def ancs : List Oper → List Nat → List Nat
  | [], acc => acc
  | o :: r, acc => ancs r (acc ++ [ancB acc o.after.toList])
def stepK (cx : Cx) (k base : Nat) (ops : Array Oper) (o : Oper) (s : DS) (K : DS → Dl → Option R) : Option R :=
  match o.guard with
  | none => opK cx k ((base + o.dst.getD 0) * 16) o.op s (K s)
  | some (j, want) => match (ops[j]?).bind (·.dst) with
    | some t => match s.tm t with
      | .at (.bool b) =>
        bif b then (bif want then opK cx k ((base + o.dst.getD 0) * 16) o.op (putB s t true) (K (putB s t true)) else K (putB s t true) ⟨.tup [], [], []⟩)
        else (bif want then K (putB s t false) ⟨.tup [], [], []⟩ else opK cx k ((base + o.dst.getD 0) * 16) o.op (putB s t false) (K (putB s t false)))
      | .tup [] => K s ⟨.tup [], [], []⟩
      | _ => none
    | none => none
def opsW (cx : Cx) (k base : Nat) (ops : Array Oper) (anc : List Nat) : Nat → List Lg → List Oper → DS → (DS → Option R) → Option R
  | _, _, [], s, K => K s
  | i, lg, o :: r, s, K => stepK cx k base ops o s fun s d =>
    bif lg.all (fun g => (anc.getD i 0).testBit g.i || compat g ⟨i, outIds d.w, d.tc⟩) then opsW cx k base ops anc (i + 1) (⟨i, outIds d.w, d.tc⟩ :: lg) r (s.app o.dst d) K else none
/-- What is asked of a drawn region's text. -/
def edgesOk : Nat → List Oper → Bool
  | _, [] => true
  | i, o :: r => o.after.toList.all (fun e => !Region.binds .any e || Nat.blt e.on i) && edgesOk (i + 1) r
def apartL (ops : Array Oper) (anc : List Nat) (i : Nat) (o : Oper) : Nat → List Oper → Bool
  | _, [] => true
  | j, x :: r => ((anc.getD j 0).testBit i || o.apart ops x) && apartL ops anc i o (j + 1) r
def apartsL (ops : Array Oper) (anc : List Nat) : Nat → List Oper → Bool
  | _, [] => true
  | i, o :: r => apartL ops anc i o (i + 1) r && apartsL ops anc (i + 1) r
def noSel (o : Oper) : Bool := match o.op with | .select _ _ => false | _ => true
def regOk (ops : Array Oper) : Bool := edgesOk 0 ops.toList && (apartsL ops (ancs ops.toList []) 0 ops.toList && ops.toList.all noSel)
/-! Code. -/
inductive Ex where | normal | exit (id : Nat) | ret
inductive Sr where | t (i : Nat) | b (x j : Nat)
structure Hint where
  tm : List Nat
  bx : List Nat
  rw : List (Sr × Nat × Nat × Ty)
def look {α : Type} (d : α) : List (Nat × α) → Nat → α
  | [], _ => d
  | p :: r, j => bif Nat.beq j p.1 then p.2 else look d r j
def tl (l : List (Nat × DV)) : Nat → DV := look (.at .undef) l
def lookO : List (Nat × Obj) → Nat → Option Obj
  | [], _ => none
  | p :: r, j => bif Nat.beq j p.1 then some p.2 else lookO r j
def srcOf (s : DS) : Sr → AV
  | .t i => match s.tm i with | .at x => x | _ => .undef
  | .b x j => match s.ob x with | some (.box _ c) => (c[j]?).getD .undef | _ => .undef
/-- A row under a name of its own; the row of the call's own that is claimed for it. -/
structure En where
  id : Nat
  o : Obj
  r : Option Nat
def claim (s : DS) (id e : Nat) (t : Ty) : AV → Option En
  | .nils => some ⟨id, .row e t true [], none⟩
  | .whole r => match s.ob r with
    | some (.row e t own l) => some ⟨id, .row e t own l, bif own then some r else none⟩
    | some (.deep e t l none) => some ⟨id, .deep e t l none, some r⟩
    | _ => none
  | .cut r off n => match s.ob r with
    | some (.row e t own l) => some ⟨id, .row e t own ((l.drop off).take n), bif own then some r else none⟩
    | _ => none
  | _ => none
def claims (s : DS) : List (Sr × Nat × Nat × Ty) → Option (List En)
  | [] => some []
  | (a, id, e, t) :: r => (claim s id e t (srcOf s a)).bind fun c => (claims s r).bind fun q => some (c :: q)
def newT (i : Nat) : List (Sr × Nat × Nat × Ty) → Option Nat
  | [] => none
  | (.t j, id, _, _) :: r => bif Nat.beq i j then some id else newT i r
  | _ :: r => newT i r
def newB (x i : Nat) : List (Sr × Nat × Nat × Ty) → Option Nat
  | [] => none
  | (.b y j, id, _, _) :: r => bif (Nat.beq x y && Nat.beq i j) then some id else newB x i r
  | _ :: r => newB x i r
def mem (l : List Nat) (i : Nat) : Bool := l.any (Nat.beq i)
/-- What stays of a value where all but some objects are forgotten. -/
def AV.scrub (kp : List Nat) : AV → AV
  | .whole r => bif mem kp r then .whole r else .undef
  | .cut r o n => bif mem kp r then .cut r o n else .undef
  | .eptr r i o => bif mem kp r then .eptr r i o else .undef
  | .bptr b o => bif mem kp b then .bptr b o else .undef
  | .fn f [] => .fn f []
  | .fn f c => bif c.all (fun p => mem kp p.1) then .fn f c else .undef
  | x => x
def scrubT (kp : List Nat) (h : Hint) (i : Nat) (v : DV) : DV :=
  match newT i h.rw with
  | some id => .at (.whole id)
  | none => match v with | .at x => .at (x.scrub kp) | .agg l => .agg (l.map (AV.scrub kp)) | .tup _ => .at .undef
def scrubC (kp : List Nat) (h : Hint) (x : Nat) : Nat → List AV → List AV
  | _, [] => []
  | j, a :: r => (match newB x j h.rw with | some id => .whole id | none => a.scrub kp) :: scrubC kp h x (j + 1) r
def boxN (kp : List Nat) (h : Hint) (s : DS) (x : Nat) : Option (Nat × Obj) :=
  match s.ob x with | some (.row e t own l) => some (x, .row e t own l) | some (.deep e t l none) => some (x, .deep e t l none) | some (.box t c) => some (x, .box t (scrubC kp h x 0 c)) | _ => none
/-- Objects that stay as they are: rows; boxes with what stays of their cells. -/
def keepN (kp : List Nat) (h : Hint) (s : DS) (x : Nat) : Option (Nat × Obj) :=
  match s.ob x with | some (.row e t own l) => some (x, .row e t own l) | some (.deep e t l none) => some (x, .deep e t l none) | some (.box t c) => some (x, .box t (scrubC kp h x 0 c)) | _ => none
def backs : List Nat → DS → Option DS
  | [], s => some s
  | r :: q, s => (takeBack s.ob r).bind fun w => backs q ⟨s.tm, updL s.ob w⟩
def norm0 (keep : List Nat) (h : Hint) (s : DS) : Option DS :=
  (claims s h.rw).bind fun q => (mapO (boxN (keep ++ h.bx) h s) h.bx).bind fun bs => (mapO (keepN (keep ++ h.bx) h s) keep).bind fun ks => bif (disj (q.filterMap En.r ++ (keep ++ h.bx)) && disj (keep ++ (h.bx ++ q.map En.id))) then
    some ⟨tl (h.tm.map fun i => (i, scrubT (keep ++ h.bx) h i (s.tm i))), lookO (ks ++ (bs ++ q.map fun e => (e.id, e.o)))⟩ else none
def norm (keep : List Nat) (h : Hint) (s : DS) : Option DS :=
  (backs (keep ++ (h.bx ++ h.rw.flatMap fun p => (srcOf s p.1).ids)) s).bind (norm0 keep h)
def backsK : List Nat → DS → (DS → Option R) → Option R
  | [], s, K => K s
  | r :: q, s, K => takeBackK s.ob r fun w => backsK q ⟨s.tm, updL s.ob w⟩ K
theorem backsK_eq : ∀ (ids : List Nat) (s : DS) (K : DS → Option R), backsK ids s K = (backs ids s).bind K
  | [], _, _ => rfl
  | r :: q, s, K => by
    simp only [backsK, backs, takeBackK_eq, Option.bind_assoc]
    exact congrArg _ (funext fun w => backsK_eq q _ K)
def normK (keep : List Nat) (h : Hint) (s : DS) (K : DS → Option R) : Option R :=
  backsK (keep ++ (h.bx ++ h.rw.flatMap fun p => (srcOf s p.1).ids)) s fun s => (norm0 keep h s).bind K
theorem normK_eq (keep : List Nat) (h : Hint) (s : DS) (K : DS → Option R) : normK keep h s K = (norm keep h s).bind K := by
  unfold normK norm
  rw [backsK_eq, Option.bind_assoc]
def kSeq (r : DS → (Ex → DS → Option R) → Option R) (K : Ex → DS → Option R) : Ex → DS → Option R := fun e s => match e with | .normal => r s K | e => K e s
def loopK (nrm : DS → (DS → Option R) → Option R) (body : DS → (Ex → DS → Option R) → Option R) : Nat → DS → (Ex → DS → Option R) → Option R
  | 0, _, _ => none
  | n + 1, s, K => body s (kSeq (fun s' K => nrm s' fun s => loopK nrm body n s K) K)
def kBlk (id : Nat) (K : Ex → DS → Option R) : Ex → DS → Option R := fun e s => match e with | .exit i => bif Nat.beq i id then K .normal s else K (.exit i) s | e => K e s
def runK (cx : Cx) (k base : Nat) (keep : List Nat) (hs : Nat → Hint) : Nat → Code → DS → (Ex → DS → Option R) → Option R
  | _, .skip, s, K => K .normal s
  | _, .label _, s, K => K .normal s
  | _, .region _ ops draw, s, K => match draw with
    | true => opsW cx k base ops (ancs ops.toList []) 0 [] ops.toList s (K .normal)
    | false => opsK cx k base ops ops.toList s (K .normal)
  | b, .seq x y, s, K => runK cx k base keep hs b x s (kSeq (runK cx k base keep hs b y) K)
  | b, .cond c x y, s, K => match ev s c with
    | .at (.bool t) => bif t then runK cx k base keep hs b x s K else runK cx k base keep hs b y s K
    | _ => none
  | _, .block id c, s, K => runK cx k base keep hs id c s (kBlk id K)
  | b, .loop c, s, K => normK keep (hs b) s fun s => loopK (normK keep (hs b)) (runK cx k base keep hs b c) k s K
  | _, .exit id, s, K => K (.exit id) s
  | _, .ret, s, K => K .ret s
  | _, _, _, _ => none
def sub : Code → List Nat → Code
  | c, [] => c
  | .seq a b, i :: r => sub (bif Nat.beq i 0 then a else b) r
  | .block _ c, _ :: r => sub c r
  | .loop c, _ :: r => sub c r
  | .cond _ a b, i :: r => sub (bif Nat.beq i 0 then a else b) r
  | c, _ => c
/-! Functions. -/
def initA (own : Bool) : Nat → Nat → List Cell → List AV × List (Nat × Obj) := fun id n cs => toOwns own id (cs.take n)
def inS : Nat → List PK → List Cell → List (Nat × DV) × List (Nat × Obj)
  | _, [], _ => ([], [])
  | j, .one :: ps, cs => let a := toOwns false (j * 16) (cs.take 1); let q := inS (j + 1) ps (cs.drop 1); ((j, .at (a.1.headD .undef)) :: q.1, a.2 ++ q.2)
  | j, .agg n :: ps, cs => let a := toOwns false (j * 16) (cs.take n); let q := inS (j + 1) ps (cs.drop n); ((j, .agg a.1) :: q.1, a.2 ++ q.2)
  | j, .aggw n _ :: ps, cs => let a := toOwns true (j * 16) (cs.take n); let q := inS (j + 1) ps (cs.drop n); ((j, .agg a.1) :: q.1, a.2 ++ q.2)
  | j, .row :: ps, cs => let a := toOwns true (j * 16) (cs.take 1); let q := inS (j + 1) ps (cs.drop 1); ((j, .at (a.1.headD .undef)) :: q.1, a.2 ++ q.2)
  | j, .box t n :: ps, cs => let a := toOwns false (j * 16 + 1) (cs.take n); let q := inS (j + 1) ps (cs.drop n); ((j, .at (.bptr (j * 16) 0)) :: q.1, (j * 16, .box t a.1) :: (a.2 ++ q.2))
  | j, .give :: ps, cs => let a := toOwns true (j * 16) (cs.take 1); let q := inS (j + 1) ps (cs.drop 1); ((j, .at (a.1.headD .undef)) :: q.1, a.2 ++ q.2)
  | j, .boxg t n :: ps, cs => let a := toOwns true (j * 16 + 1) (cs.take n); let q := inS (j + 1) ps (cs.drop n); ((j, .at (.bptr (j * 16) 0)) :: q.1, (j * 16, .box t a.1) :: (a.2 ++ q.2))
  | j, .fnp g t n :: ps, cs => let a := toOwns false (j * 16 + 1) (cs.take n); let q := inS (j + 1) ps (cs.drop n); ((j, .at (.fn g [(j * 16, 0)])) :: q.1, (j * 16, .box t a.1) :: (a.2 ++ q.2))
/-- Objects that stay through the call. -/
def kpS : Nat → List PK → List Cell → List Nat
  | _, [], _ => []
  | j, .one :: ps, cs => outIds (toOwns false (j * 16) (cs.take 1)).2 ++ kpS (j + 1) ps (cs.drop 1)
  | j, .agg n :: ps, cs => outIds (toOwns false (j * 16) (cs.take n)).2 ++ kpS (j + 1) ps (cs.drop n)
  | j, .aggw n _ :: ps, cs => outIds (toOwns true (j * 16) (cs.take n)).2 ++ kpS (j + 1) ps (cs.drop n)
  | j, .row :: ps, cs => outIds (toOwns true (j * 16) (cs.take 1)).2 ++ kpS (j + 1) ps (cs.drop 1)
  | j, .box _ n :: ps, cs => j * 16 :: (outIds (toOwns false (j * 16 + 1) (cs.take n)).2 ++ kpS (j + 1) ps (cs.drop n))
  | j, .give :: ps, cs => kpS (j + 1) ps (cs.drop 1)
  | j, .boxg _ n :: ps, cs => j * 16 :: kpS (j + 1) ps (cs.drop n)
  | j, .fnp _ _ n :: ps, cs => j * 16 :: (outIds (toOwns false (j * 16 + 1) (cs.take n)).2 ++ kpS (j + 1) ps (cs.drop n))
def init (ps : List PK) (cs : List Cell) : DS := let q := inS 0 ps cs; ⟨tl q.1, lookO q.2⟩
def resD (tt : Nat → Option TI) (s : DS) : ResultVar → Option DV
  | .tmp t => some (s.tm t)
  | .cell a t => (tt t).bind fun ti => match s.tm a with
    | .at (.bptr b 0) => (match s.ob b with
      | some (.box _ c) => if c.length = ti.sz then (bif ti.agg then some (.agg c) else match c with | [x] => some (.at x) | _ => none) else none
      | _ => none)
    | .at (.eptr r 0 0) => (match ti.arr with
      | some ik => (match s.ob r with
        | some (.row _ (.int ik') true l) => if ik' = ik ∧ (l : List Int).length = ti.sz then some (.agg ((l : List Int).map (AV.int ik'))) else none
        | _ => none)
      | none => none)
    | _ => none
/-- The cells of results, the rows and boxes of the call's own among them, the other rows; the boxes and rows that were handed over and stay. -/
structure Ra where
  a : List AV
  own : List Nat
  oth : List Nat
  kp : List Nat
def ownL (own : Bool) (l : List AV) (q : Ra) : Ra := ⟨l ++ q.a, (bif own then idsOf l else []) ++ q.own, (bif own then [] else idsOf l) ++ q.oth, q.kp⟩
def resA (tt : Nat → Option TI) (s : DS) : List RK → List ResultVar → Option Ra
  | [], [] => some ⟨[], [], [], []⟩
  | k :: ks, v :: vs => (resD tt s v).bind fun d => (resA tt s ks vs).bind fun q => match k, d with
    | .one own, .at x => some (ownL own [x] q)
    | .agg n own, .agg l => if l.length = n then some (ownL own l q) else none
    | .ptr t n own, .at (.bptr b 0) => match s.ob b with
      | some (.box t' c) => if t' = t ∧ c.length = n then some (let p := ownL own c q; ⟨p.a, b :: p.own, p.oth, p.kp⟩) else none
      | _ => none
    | _, _ => none
  | _, _ => none
def isOwn (s : DS) (r : Nat) : Bool := match s.ob r with | some (.box _ _) => true | some (.row _ t true _) => t.plain | some (.deep _ t _ none) => !t.plain | _ => false
/-- No part of a deep row goes out. -/
def cutOk (s : DS) : AV → Bool | .cut r _ _ => (match s.ob r with | some (.row _ _ _ _) => true | _ => false) | _ => true
def pA (s : DS) : Nat → List PK → Option Ra
  | _, [] => some ⟨[], [], [], []⟩
  | j, .row :: ps => (pA s (j + 1) ps).bind fun q => some ⟨.whole (j * 16) :: q.a, q.own, q.oth, j * 16 :: q.kp⟩
  | j, .box t n :: ps => match s.ob (j * 16) with
    | some (.box t' c) => if t' = t ∧ c.length = n then (pA s (j + 1) ps).bind fun q => some ⟨c ++ q.a, q.own, idsOf c ++ q.oth, j * 16 :: q.kp⟩ else none
    | _ => none
  | j, .fnp _ t n :: ps => match s.ob (j * 16) with
    | some (.box t' c) => if t' = t ∧ c.length = n then (pA s (j + 1) ps).bind fun q => some ⟨c ++ q.a, q.own, idsOf c ++ q.oth, j * 16 :: q.kp⟩ else none
    | _ => none
  | j, .boxg t n :: ps => match s.ob (j * 16) with
    | some (.box t' c) => if t' = t ∧ c.length = n then (pA s (j + 1) ps).bind fun q => some ⟨c ++ q.a, idsOf c ++ q.own, q.oth, j * 16 :: q.kp⟩ else none
    | _ => none
  | j, .aggw _ sl :: ps => (pA s (j + 1) ps).bind fun q => some ⟨sl.map (fun i => .whole (j * 16 + i)) ++ q.a, q.own, q.oth, sl.map (fun i => j * 16 + i) ++ q.kp⟩
  | j, _ :: ps => pA s (j + 1) ps
def fin0 (tt : Nat → Option TI) (ps : List PK) (rs : List RK) (vs : List ResultVar) (O : Ty) (s : DS) : Option O.den := (resA tt s rs vs).bind fun q => (pA s 0 ps).bind fun p => bif (((q.own ++ p.own) ++ p.kp).all (isOwn s) && (disj ((q.own ++ p.own) ++ p.kp) && ((q.oth ++ p.oth).all (fun i => !mem ((q.own ++ p.own) ++ p.kp) i) && (q.a ++ p.a).all (cutOk s)))) then ofAVs (dv s.ob) O (q.a ++ p.a) else none
/-- What deep rows have lent comes back first. -/
def fin (tt : Nat → Option TI) (ps : List PK) (rs : List RK) (vs : List ResultVar) (O : Ty) (e : Ex) (s : DS) : Option O.den :=
  match e with
  | .exit _ => none
  | _ => (resA tt s rs vs).bind fun q => (pA s 0 ps).bind fun p => backsK ((q.own ++ p.own) ++ (p.kp ++ (q.oth ++ p.oth))) s (fin0 tt ps rs vs O)
def func (cx : Cx) (hs : Nat → Hint) (ps : List PK) (rs : List RK) (vs : List ResultVar) (I O : Ty) (c : Code) (k : Nat) (x : I.den) : Option O.den :=
  bif disj (outIds (inS 0 ps (Ty.cells I x)).2) then runK cx k 0 (kpS 0 ps (Ty.cells I x)) hs 0 c (init ps (Ty.cells I x)) (fin cx.tt ps rs vs O) else none
end Go.Proofs.Ytpinehfjimphmaa.DI
