import PyProof.Rows.All
import PyProof.ReprReads
import PyProof.Lay0
import Wide.All
import OpenK.AllK
import Wide.FinOn
import HandS.Base
import HandS.Call
import HandS.List
import HandS.Comp
import HandS.Exc
import HandS.Wide
import HandS.IsInst
import HandS.Flow
import HandS.Text
import HandS.TupLe
import HandS.Iter
import HandS.Style
import HandS.TupAny
import HandS.CallSlots
import HandS.Defaults
import HandS.ExcOwn
import HandS.Ends
import HandS.EndBits
import HandS.Head0
import HandS.Head1
import HandS.Head2
import HandS.HeadEnd
import HandS.HeadHook1
import HandS.HeadHook2
import PySem.Challenge.RW_huesenough_k00_integers_and_names
set_option Elab.async false
set_option linter.all false
set_option maxRecDepth 100000
set_option maxHeartbeats 0
/-! Dp: a small evaluator over plain data. Values, store, the code, its meaning. -/
namespace Zd
open PySem

/-- values -/
inductive D where
  | non | bl (b : Bool) | int (i : Int) | str (x : Str)
  | tup (ds : List D) | lst (ds : List D) | dct (ks vs : List D)
  | ins (c : Nat) (fs : List Nat) (vs : List D)
  | loc (n : Nat)
  | lck (ds : List D)
  deriving Inhabited

inductive Cell where
  | lst (ds : List D) | dct (ks vs : List D) | ins (c : Nat) (fs : List Nat) (vs : List D) | dead
  deriving Inhabited

mutual
/-- all places of the store in a value lie below this -/
def D.mx : D → Nat
  | .non | .bl _ | .int _ | .str _ => 0
  | .tup ds => D.mxs ds
  | .lst ds => D.mxs ds
  | .dct ks vs => Nat.max (D.mxs ks) (D.mxs vs)
  | .ins _ _ vs => D.mxs vs
  | .loc n => n + 1
  | .lck ds => D.mxs ds
def D.mxs : List D → Nat
  | [] => 0
  | d :: ds => Nat.max (D.mx d) (D.mxs ds)
end
def Cell.mx : Cell → Nat
  | .lst ds => D.mxs ds
  | .dct ks vs => Nat.max (D.mxs ks) (D.mxs vs)
  | .ins _ _ vs => D.mxs vs
  | .dead => 0

structure Sto where
  cells : List Cell
  flr : Nat
  deriving Inhabited
def Sto.get (s : Sto) (n : Nat) : Option Cell := s.cells[n]?
def Sto.size (s : Sto) : Nat := s.cells.length
/-- a cell is written -/
def Sto.put (s : Sto) (n : Nat) (c : Cell) : Sto := ⟨s.cells.set n c, if c.mx ≤ n then s.flr else Nat.max s.flr c.mx⟩
/-- a new cell -/
def Sto.new (s : Sto) (c : Cell) : Sto := ⟨s.cells ++ [c], s.flr⟩
/-- cells from n on are let go -/
def Sto.cut (s : Sto) (n : Nat) : Sto := ⟨s.cells.take (Nat.max n s.flr), s.flr⟩

inductive Res (α : Type) where
  | ok (a : α) (s : Sto)
  | exc (c : Nat) (vs : List D) (s : Sto)
  | bad
  deriving Inhabited
def Res.bind {α β : Type} (r : Res α) (f : α → Sto → Res β) : Res β := match r with
  | .ok a s => f a s
  | .exc c vs s => .exc c vs s
  | .bad => .bad
@[simp] theorem Res.bind_ok {α β : Type} (a : α) (s : Sto) (f : α → Sto → Res β) : (Res.ok a s).bind f = f a s := rfl
@[simp] theorem Res.bind_exc {α β : Type} (c : Nat) (vs : List D) (s : Sto) (f : α → Sto → Res β) : (Res.exc c vs s : Res α).bind f = .exc c vs s := rfl
@[simp] theorem Res.bind_bad {α β : Type} (f : α → Sto → Res β) : (Res.bad : Res α).bind f = .bad := rfl
def Res.opt {α : Type} (o : Option α) (s : Sto) : Res α := match o with
  | some a => .ok a s
  | none => .bad
@[simp] theorem Res.opt_some {α : Type} (a : α) (s : Sto) : Res.opt (some a) s = .ok a s := rfl
@[simp] theorem Res.opt_none {α : Type} (s : Sto) : (Res.opt none s : Res α) = .bad := rfl

/-- lists, tuples, texts are shorter than this -/
def lim : Nat := 1000000

/-! ### reading through the store -/
def D.seq? (s : Sto) : D → Option (List D)
  | .tup ds => some ds
  | .lst ds => some ds
  | .lck ds => some ds
  | .loc n => match s.get n with
    | some (.lst ds) => some ds
    | _ => none
  | _ => none
def D.lst? (s : Sto) : D → Option (List D)
  | .lst ds => some ds
  | .loc n => match s.get n with
    | some (.lst ds) => some ds
    | _ => none
  | _ => none
def D.dct? (s : Sto) : D → Option (List D × List D)
  | .dct ks vs => some (ks, vs)
  | .loc n => match s.get n with
    | some (.dct ks vs) => some (ks, vs)
    | _ => none
  | _ => none
def D.truth (s : Sto) : D → Option Bool
  | .non => some false
  | .bl b => some b
  | .int i => some (i != 0)
  | .str x => if x.length ≤ lim then some ((x.length : Int) != 0) else none
  | .tup ds => some (!ds.isEmpty)
  | .lst ds => some (!ds.isEmpty)
  | .loc n => match s.get n with
    | some (.lst ds) => some (!ds.isEmpty)
    | _ => none
  | _ => none

mutual
def D.eqv : D → D → Bool
  | .non, .non => true
  | .bl a, .bl b => a == b
  | .bl a, .int i => (if a then 1 else 0) == i
  | .int i, .bl a => i == (if a then 1 else 0)
  | .int i, .int j => i == j
  | .str x, .str y => x == y
  | .tup xs, .tup ys => D.eqvs xs ys
  | .lst xs, .lst ys => D.eqvs xs ys
  | _, _ => false
def D.eqvs : List D → List D → Bool
  | [], [] => true
  | x :: xs, y :: ys => D.eqv x y && D.eqvs xs ys
  | _, _ => false
end
mutual
/-- data that == compares item by item -/
def D.eqOk : D → Bool
  | .non | .bl _ | .int _ => true
  | .str x => PyData.strOk x
  | .tup ds => D.eqOks ds
  | .lst ds => D.eqOks ds
  | _ => false
def D.eqOks : List D → Bool
  | [] => true
  | d :: ds => D.eqOk d && D.eqOks ds
end
mutual
def D.depth : D → Nat
  | .tup ds => 1 + D.depths ds
  | .lst ds => 1 + D.depths ds
  | .dct ks vs => 1 + Nat.max (D.depths ks) (D.depths vs)
  | _ => 0
def D.depths : List D → Nat
  | [] => 0
  | d :: ds => Nat.max (D.depth d) (D.depths ds)
end
/-- a list's cell read as a value -/
def D.res (s : Sto) (d : D) : D := match d with
  | .loc n => match s.get n with
    | some (.lst ds) => .lst ds
    | _ => .loc n
  | d => d
mutual
def D.py : D → PyData
  | .non => .none
  | .bl b => .bool b
  | .int i => .int i
  | .str x => .str x
  | .tup ds => .tuple (D.pys ds)
  | .lst ds => .list (D.pys ds)
  | _ => .none
def D.pys : List D → List PyData
  | [] => []
  | d :: ds => D.py d :: D.pys ds
end
mutual
/-- the text that repr makes -/
def D.show : D → Str
  | .non => "None"
  | .bl b => if b then "True" else "False"
  | .int i => toString i
  | .str x => reprText x
  | .tup ds => tupleText (D.shows ds)
  | .lst ds => listText (D.shows ds)
  | _ => ""
def D.shows : List D → List Str
  | [] => []
  | d :: ds => D.show d :: D.shows ds
end
mutual
/-- ints of so few digits that repr writes them -/
def D.showOk : D → Bool
  | .int i => decide (i.natAbs.log2 < 1920)
  | .tup ds => D.showOks ds
  | .lst ds => D.showOks ds
  | .non | .bl _ | .str _ => true
  | _ => false
def D.showOks : List D → Bool
  | [] => true
  | d :: ds => D.showOk d && D.showOks ds
end

/-! ### the code -/
inductive BOp where
  | add | sub | mul | mod | fdiv | pow
  deriving DecidableEq, Repr, Inhabited
inductive COp where
  | eq | ne | lt | le | gt | ge | isIn | notIn | isN | notN
  deriving DecidableEq, Repr, Inhabited
inductive Blt where
  | len | abs | int | max | min | all | any | repr | list | tuple | str | sum
  deriving DecidableEq, Repr, Inhabited
inductive TyR where
  | int | bool | str | tuple | list | dict | own (c : Nat)
  deriving DecidableEq, Repr, Inhabited
inductive SM where
  | append | pop0 | pop1 | join
  deriving DecidableEq, Repr, Inhabited
inductive Con where
  | non | bl (b : Bool) | int (i : Int) | str (x : Str)
  deriving DecidableEq, Repr, Inhabited
def Con.d : Con → D
  | .non => .non
  | .bl b => .bl b
  | .int i => .int i
  | .str x => .str x
inductive Tg where
  | nm (i : Nat) | tp (ts : List Nat)
  deriving DecidableEq, Repr, Inhabited

mutual
inductive Ex where
  | var (i : Nat)
  | con (c : Con)
  | glo (g : Nat)
  | and (es : List Ex)
  | or (es : List Ex)
  | not (a : Ex)
  | ite (c a b : Ex)
  | bin (o : BOp) (a b : Ex)
  | neg (a : Ex)
  | cmp (o : COp) (a b : Ex)
  | chain (o1 o2 : COp) (a b c : Ex)
  | tup (es : List Ex)
  | lst (es : List Ex)
  | dct (es : List Ex)
  | idx (a i : Ex)
  | slc (a : Ex) (lo hi st : Option Ex)
  | isi (a : Ex) (t : TyR)
  | blt (b : Blt) (es : List Ex)
  | call (f : Nat) (es : List Ex)
  | smeth (m : SM) (o : Ex) (es : List Ex)
  | mk (e : Ex)
  | comp (own : List Nat) (t : Tg) (it : It) (c : Option Ex) (e : Ex)
/-- what a for walks -/
inductive It where
  | val (e : Ex)
  | rng (es : List Ex)
end
instance : Inhabited Ex := ⟨.var 0⟩
instance : Inhabited It := ⟨.rng []⟩

inductive St where
  | pass
  | brk
  | cont
  | expr (e : Ex)
  | ret (e : Ex)
  | retN
  | asg (t : Tg) (e : Ex)
  | asgI (o i e : Ex)
  | frz (i : Nat)
  | ite (c : Ex) (a b : List St)
  | forS (t : Tg) (it : It) (b : List St)
  | whileS (c : Ex) (b : List St)
  deriving Inhabited

abbrev Env := List (Option D)

/-! ### operations on values -/
def mulOk (i j : Int) : Bool := decide (i.natAbs.log2 + j.natAbs.log2 < 1000000)
def divOk (j : Int) : Bool := decide (0 < j) && decide (j.natAbs.log2 < 9000)
def powOk (i j : Int) : Bool := decide (0 ≤ j) && decide ((i.natAbs.log2 + 1 : Int) * j ≤ 100000000)
def D.add (x y : D) (s : Sto) : Option D := match x with
  | .int i => match y with
    | .int j => some (.int (i + j))
    | _ => none
  | .str a => match y with
    | .str b => if a.length + b.length ≤ lim then some (.str (a ++ b)) else none
    | _ => none
  | .tup a => match y with
    | .tup b => if a.length + b.length ≤ lim then some (.tup (a ++ b)) else none
    | _ => none
  | x => (x.lst? s).bind fun a => (y.lst? s).bind fun b => if a.length + b.length ≤ lim then some (.lst (a ++ b)) else none
def D.mul (x y : D) (s : Sto) : Option D := match x with
  | .int i => match y with
    | .int j => if mulOk i j then some (.int (i * j)) else none
    | _ => none
  | _ => none
def D.bin (o : BOp) (x y : D) (s : Sto) : Option D := match o with
  | .add => D.add x y s
  | .mul => D.mul x y s
  | o => match x with
    | .int i => match y with
      | .int j => match o with
        | .sub => some (.int (i - j))
        | .mod => if 0 < j then some (.int (i % j)) else none
        | .fdiv => if divOk j then some (.int (i / j)) else none
        | .pow => if powOk i j then some (.int (i ^ j.toNat)) else none
        | _ => none
      | _ => none
    | _ => none
def strLt (x y : Str) : Bool := decide (x.cps.toList < y.cps.toList)
def strLe (x y : Str) : Bool := !strLt y x
def eqRoom (x y : D) : Bool := x.eqOk && y.eqOk && decide (x.depth ≤ 60) && decide (y.depth ≤ 60)
def D.eqV (x y : D) (neg : Bool) : Option D := match x, y with
  | .str a, .str b => some (.bl ((a == b) != neg))
  | x, y => if eqRoom x y then some (.bl (D.eqv x y != neg)) else none
def D.isNon : D → Bool
  | .non => true
  | _ => false
def strIn (a b : Str) : Bool := !(Builtin.Str.occurrences b a 0 b.length 1).isEmpty
def D.cmp (o : COp) (x y : D) (s : Sto) : Option D := match o with
  | .eq => D.eqV (x.res s) (y.res s) false
  | .ne => D.eqV (x.res s) (y.res s) true
  | .lt => match x, y with
    | .int i, .int j => some (.bl (decide (i < j)))
    | .str a, .str b => some (.bl (strLt a b))
    | _, _ => none
  | .gt => match x, y with
    | .int i, .int j => some (.bl (decide (j < i)))
    | .str a, .str b => some (.bl (strLt b a))
    | _, _ => none
  | .le => match x, y with
    | .int i, .int j => some (.bl (decide (i ≤ j)))
    | .str a, .str b => some (.bl (strLe a b))
    | _, _ => none
  | .ge => match x, y with
    | .int i, .int j => some (.bl (decide (j ≤ i)))
    | .str a, .str b => some (.bl (strLe b a))
    | _, _ => none
  | .isIn => match x, y with
    | .str a, .str b => some (.bl (strIn a b))
    | _, _ => none
  | .notIn => match x, y with
    | .str a, .str b => some (.bl (!strIn a b))
    | _, _ => none
  | .isN => match y with
    | .non => some (.bl x.isNon)
    | _ => none
  | .notN => match y with
    | .non => some (.bl (!x.isNon))
    | _ => none
def D.neg (x : D) : Option D := match x with
  | .int i => some (.int (-i))
  | _ => none
/-- the place of an index -/
def at? (n : Nat) (i : Int) : Option Nat := if 0 ≤ i then (if i < n then some i.toNat else none) else if -(n : Int) ≤ i then some (i + n).toNat else none
def D.idx (x i : D) (s : Sto) : Option D := match i with
  | .int k => match x with
    | .str z => if z.length ≤ lim then ((at? z.length k).bind fun j => z.cps.toList[j]?).map fun c => .str ⟨#[c]⟩ else none
    | x => (x.seq? s).bind fun ds => (at? ds.length k).bind fun j => ds[j]?
  | _ => none
def TyR.isB (n : Nat) (t : TyR) (u : Option TyR) : Option Bool := match t with
  | .own c => if c < n then some (u == some (.own c)) else none
  | t => some (u == some t)
/-- isinstance; n: how many classes of one's own there are -/
def TyR.is (n : Nat) (s : Sto) (t : TyR) (d : D) : Option Bool := match d with
  | .non => TyR.isB n t none
  | .bl _ => match t with
    | .bool | .int => some true
    | t => TyR.isB n t none
  | .int _ => TyR.isB n t (some .int)
  | .str _ => TyR.isB n t (some .str)
  | .tup _ => TyR.isB n t (some .tuple)
  | .lst _ => TyR.isB n t (some .list)
  | .lck _ => TyR.isB n t (some .list)
  | .dct _ _ => TyR.isB n t (some .dict)
  | .ins c _ _ => if c < n then TyR.isB n t (some (.own c)) else none
  | .loc k => match s.get k with
    | some (.lst _) => TyR.isB n t (some .list)
    | some (.dct _ _) => TyR.isB n t (some .dict)
    | some (.ins c _ _) => if c < n then TyR.isB n t (some (.own c)) else none
    | _ => none
def D.bools : List D → Option (List Bool)
  | [] => some []
  | .bl b :: r => (D.bools r).map (b :: ·)
  | _ :: _ => none
def D.ints : List D → Option (List Int)
  | [] => some []
  | .int i :: r => (D.ints r).map (i :: ·)
  | _ :: _ => none
def D.strs : List D → Option (List Str)
  | [] => some []
  | .str x :: r => (D.strs r).map (x :: ·)
  | _ :: _ => none
def maxI (i j : Int) : Int := if j > i then j else i
def minI (i j : Int) : Int := if j < i then j else i
def D.len (x : D) (s : Sto) : Option Nat := match x with
  | .str x => if x.length ≤ lim then some x.length else none
  | x => (x.seq? s).map List.length
def D.repr (x : D) (s : Sto) : Option Str :=
  if (x.res s).showOk && decide ((x.res s).depth < 60) && decide ((x.res s).show.length ≤ lim) then some (x.res s).show else none
def D.blt (b : Blt) (xs : List D) (s : Sto) : Option D := match b, xs with
  | .len, [x] => (x.len s).map fun n => .int n
  | .abs, [.int i] => some (.int (if i < 0 then -i else i))
  | .int, [.int i] => some (.int i)
  | .int, [.bl k] => some (.int (if k then 1 else 0))
  | .max, [.int i, .int j] => some (.int (maxI i j))
  | .min, [.int i, .int j] => some (.int (minI i j))
  | .all, [x] => ((x.lst? s).bind D.bools).map fun bs => .bl (bs.all id)
  | .any, [x] => ((x.lst? s).bind D.bools).map fun bs => .bl (bs.any id)
  | .repr, [x] => (x.repr s).map .str
  | _, _ => none
/-- the type whose method it is -/
def SM.takes (m : SM) (o : D) (s : Sto) : Bool := match m with
  | .join => (match o with
    | .str _ => true
    | _ => false)
  | _ => (o.lst? s).isSome
/-- methods of built-in types -/
def D.smeth (m : SM) (o : D) (xs : List D) (s : Sto) : Option (D × Sto) := match m, xs with
  | .append, [x] => match o with
    | .loc n => match s.get n with
      | some (.lst ds) => if ds.length < lim then some (.non, s.put n (.lst (ds ++ [x]))) else none
      | _ => none
    | _ => none
  | .join, [x] => match o with
    | .str z => ((x.lst? s).bind D.strs).bind fun zs => if (zs.map (·.length)).sum + zs.length * z.length ≤ lim then some (.str (Str.join z zs), s) else none
    | _ => none
  | _, _ => none
/-- o[i] = v -/
def D.setI (o i v : D) (s : Sto) : Option Sto := match o with
  | .loc n => match s.get n with
    | some (.lst ds) => match i with
      | .int k => (at? ds.length k).map fun j => s.put n (.lst (ds.set j v))
      | _ => none
    | _ => none
  | _ => none
/-- a slice's place -/
def cutAt (n d : Nat) : Option Int → Nat
  | none => d
  | some v => if v < 0 then (v + (n : Int)).toNat else min v.toNat n
def cutL {α : Type} (xs : List α) (lo hi : Option Int) : List α := (xs.drop (cutAt xs.length 0 lo)).take (cutAt xs.length xs.length hi - cutAt xs.length 0 lo)
def D.slc (x : D) (lo hi : Option Int) (s : Sto) : Option D := match x with
  | .str z => if z.length ≤ lim then some (.str ⟨(cutL z.cps.toList lo hi).toArray⟩) else none
  | .tup ds => some (.tup (cutL ds lo hi))
  | x => (x.lst? s).map fun ds => .lst (cutL ds lo hi)
def D.int? : D → Option Int
  | .int i => some i
  | _ => none
def Tg.bind (t : Tg) (d : D) (en : Env) : Option Env := match t with
  | .nm i => some (en.set i (some d))
  | .tp is => match d with
    | .tup ds => if ds.length = is.length then some ((is.zip ds).foldl (fun e p => e.set p.1 (some p.2)) en) else none
    | _ => none
def Tg.is : Tg → List Nat
  | .nm i => [i]
  | .tp is => is
def wipe (en : Env) : List Nat → Env
  | [] => en
  | v :: vs => (wipe en vs).set v none
/-- what a for walks -/
def D.items (s : Sto) : D → Option (List D)
  | .str x => some (x.cps.toList.map fun c => .str ⟨#[c]⟩)
  | .tup ds => some ds
  | .lst ds => some ds
  | .lck ds => some ds
  | _ => none
def rng (lo hi : Int) : List D := (List.range (hi - lo).toNat).map fun (k : Nat) => .int (lo + k)
def small62 (i : Int) : Bool := decide (-(2 ^ 62) ≤ i) && decide (i < 2 ^ 62)
def D.range1 (xs : List D) : Option (List D) := match xs with
  | [.int j] => if small62 j then some (rng 0 j) else none
  | _ => none
def D.range2 (xs : List D) : Option (List D) := match xs with
  | [.int i, .int j] => if small62 i && small62 j then some (rng i j) else none
  | _ => none
def D.range (n : Nat) (xs : List D) : Option (List D) := match n with
  | 1 => D.range1 xs
  | _ => D.range2 xs
/-- a comprehension's turns: f is one turn -/
def compGo (f : D → Sto → Res (Option D)) : List D → List D → Sto → Res (List D)
  | [], acc, s => .ok acc s
  | d :: ds, acc, s => match f d s with
    | .ok (some x) s1 => if acc.length < lim then compGo f ds (acc ++ [x]) s1 else .bad
    | .ok none s1 => compGo f ds acc s1
    | _ => .bad
def D.isKey : D → Bool
  | .int _ | .str _ => true
  | _ => false
def D.keq : D → D → Bool
  | .int i, .int j => i == j
  | .str x, .str y => x == y
  | _, _ => false
/-- keys that differ -/
def keysOk : List D → Bool
  | [] => true
  | k :: ks => k.isKey && ks.all (fun q => !D.keq k q) && keysOk ks
def pairsOf : List D → Option (List D × List D)
  | [] => some ([], [])
  | [_] => none
  | k :: v :: r => (pairsOf r).map fun p => (k :: p.1, v :: p.2)
/-- a dict's display -/
def dctOf (ds : List D) : Option D := (pairsOf ds).bind fun p => if keysOk p.1 && decide (p.1.length ≤ 15) then some (.dct p.1 p.2) else none

def Cell.d : Cell → D
  | .lst ds => .lst ds
  | .dct ks vs => .dct ks vs
  | .ins c fs vs => .ins c fs vs
  | .dead => .non
def Cell.live : Cell → Bool
  | .dead => false
  | _ => true
def D.cell : D → Option Cell
  | .lst ds => some (.lst ds)
  | .dct ks vs => some (.dct ks vs)
  | _ => none
/-! ### the meaning -/
structure Sem where
  call : Nat → List D → Sto → Res D
  glo : Nat → Option D
  ncl : Nat

mutual
def ev (M : Sem) : Ex → Env → Sto → Res D
  | .var i, en, s => match en[i]? with
    | some (some d) => .ok d s
    | _ => .bad
  | .con c, _, s => .ok c.d s
  | .glo g, _, s => Res.opt (M.glo g) s
  | .and es, en, s => evAnd M es en s
  | .or es, en, s => evOr M es en s
  | .not a, en, s => (ev M a en s).bind fun x s1 => (Res.opt (x.truth s1) s1).bind fun b s2 => .ok (.bl (!b)) s2
  | .ite c a b, en, s => (ev M c en s).bind fun x s1 => (Res.opt (x.truth s1) s1).bind fun k s2 => if k then ev M a en s2 else ev M b en s2
  | .bin o a b, en, s => (ev M a en s).bind fun x s1 => (ev M b en s1).bind fun y s2 => Res.opt (D.bin o x y s2) s2
  | .neg a, en, s => (ev M a en s).bind fun x s1 => Res.opt (D.neg x) s1
  | .cmp o a b, en, s => (ev M a en s).bind fun x s1 => (ev M b en s1).bind fun y s2 => Res.opt (D.cmp o x y s2) s2
  | .chain o1 o2 a b c, en, s => (ev M a en s).bind fun x s1 => (ev M b en s1).bind fun y s2 => match D.cmp o1 x y s2 with
    | some (.bl true) => (ev M c en s2).bind fun w s3 => Res.opt (D.cmp o2 y w s3) s3
    | some (.bl false) => .ok (.bl false) s2
    | _ => .bad
  | .tup es, en, s => (evs M es en s).bind fun ds s1 => if ds.length ≤ lim then .ok (.tup ds) s1 else .bad
  | .lst es, en, s => (evs M es en s).bind fun ds s1 => if ds.length ≤ lim then .ok (.lst ds) s1 else .bad
  | .dct es, en, s => (evs M es en s).bind fun ds s1 => Res.opt (dctOf ds) s1
  | .idx a i, en, s => (ev M a en s).bind fun x s1 => (ev M i en s1).bind fun y s2 => Res.opt (D.idx x y s2) s2
  | .slc a lo hi st, en, s => (ev M a en s).bind fun x s1 => (evO M lo en s1).bind fun l s2 => (evO M hi en s2).bind fun h s3 => match st with
    | none => Res.opt (D.slc x l h s3) s3
    | some _ => .bad
  | .isi a t, en, s => (ev M a en s).bind fun x s1 => Res.opt ((t.is M.ncl s1 x).map .bl) s1
  | .blt b es, en, s => (evs M es en s).bind fun ds s1 => Res.opt (D.blt b ds s1) s1
  | .call f es, en, s => (evs M es en s).bind fun ds s1 => M.call f ds s1
  | .smeth m o es, en, s => (ev M o en s).bind fun x s1 => if m.takes x s1 then (evs M es en s1).bind fun ds s2 => match D.smeth m x ds s2 with
    | some (d, s3) => .ok d s3
    | none => .bad else .bad
  | .mk e, en, s => (ev M e en s).bind fun d s1 => match d.cell with
    | some c => .ok (.loc s1.size) (s1.new c)
    | none => .bad
  | .comp own t it c e, en, s => (evIt M it en s).bind fun ds s1 =>
      (compGo (fun d s2 => match t.bind d (wipe en own) with
        | none => .bad
        | some en2 => (evC M c en2 s2).bind fun b s3 => if b then (ev M e en2 s3).bind fun x s4 => .ok (some x) s4 else .ok none s3) ds [] s1).bind fun xs s2 => .ok (.lst xs) s2
/-- what a for walks -/
def evIt (M : Sem) : It → Env → Sto → Res (List D)
  | .rng es, en, s => (evs M es en s).bind fun ds s1 => Res.opt (D.range es.length ds) s1
  | .val e, en, s => (ev M e en s).bind fun x s1 => Res.opt (x.items s1) s1
def evs (M : Sem) : List Ex → Env → Sto → Res (List D)
  | [], _, s => .ok [] s
  | e :: es, en, s => (ev M e en s).bind fun x s1 => (evs M es en s1).bind fun xs s2 => .ok (x :: xs) s2
def evAnd (M : Sem) : List Ex → Env → Sto → Res D
  | [], _, _ => .bad
  | [e], en, s => ev M e en s
  | e :: es, en, s => (ev M e en s).bind fun x s1 => (Res.opt (x.truth s1) s1).bind fun k s2 => if k then evAnd M es en s2 else .ok x s2
def evOr (M : Sem) : List Ex → Env → Sto → Res D
  | [], _, _ => .bad
  | [e], en, s => ev M e en s
  | e :: es, en, s => (ev M e en s).bind fun x s1 => (Res.opt (x.truth s1) s1).bind fun k s2 => if k then .ok x s2 else evOr M es en s2
def evO (M : Sem) : Option Ex → Env → Sto → Res (Option Int)
  | none, _, s => .ok none s
  | some e, en, s => (ev M e en s).bind fun x s1 => Res.opt (x.int?.map some) s1
/-- a comprehension's test -/
def evC (M : Sem) : Option Ex → Env → Sto → Res Bool
  | none, _, s => .ok true s
  | some e, en, s => (ev M e en s).bind fun x s1 => Res.opt (x.truth s1) s1
end

/-! ### statements -/
inductive Flow where
  | next | brk | cont | ret (d : D)
  deriving Inhabited
inductive RS where
  | ok (f : Flow) (en : Env) (s : Sto)
  | exc (c : Nat) (vs : List D) (en : Env) (s : Sto)
  | bad
  deriving Inhabited
def Res.st {α : Type} (r : Res α) (en : Env) (k : α → Sto → RS) : RS := match r with
  | .ok a s => k a s
  | .exc c vs s => .exc c vs en s
  | .bad => .bad
@[simp] theorem Res.st_ok {α : Type} (a : α) (s : Sto) (en : Env) (k : α → Sto → RS) : (Res.ok a s).st en k = k a s := rfl
@[simp] theorem Res.st_exc {α : Type} (c : Nat) (vs : List D) (s : Sto) (en : Env) (k : α → Sto → RS) : (Res.exc c vs s : Res α).st en k = .exc c vs en s := rfl
@[simp] theorem Res.st_bad {α : Type} (en : Env) (k : α → Sto → RS) : (Res.bad : Res α).st en k = .bad := rfl
def RS.bind (r : RS) (k : Env → Sto → RS) : RS := match r with
  | .ok .next en s => k en s
  | r => r
@[simp] theorem RS.bind_next (en : Env) (s : Sto) (k : Env → Sto → RS) : (RS.ok .next en s).bind k = k en s := rfl
@[simp] theorem RS.bind_ret (d : D) (en : Env) (s : Sto) (k : Env → Sto → RS) : (RS.ok (.ret d) en s).bind k = .ok (.ret d) en s := rfl
@[simp] theorem RS.bind_brk (en : Env) (s : Sto) (k : Env → Sto → RS) : (RS.ok .brk en s).bind k = .ok .brk en s := rfl
@[simp] theorem RS.bind_cont (en : Env) (s : Sto) (k : Env → Sto → RS) : (RS.ok .cont en s).bind k = .ok .cont en s := rfl
@[simp] theorem RS.bind_exc (c : Nat) (vs : List D) (en : Env) (s : Sto) (k : Env → Sto → RS) : (RS.exc c vs en s).bind k = .exc c vs en s := rfl
@[simp] theorem RS.bind_bad (k : Env → Sto → RS) : RS.bad.bind k = .bad := rfl
/-- a for's turns: f is one turn -/
def forGo (f : D → Env → Sto → RS) : List D → Env → Sto → RS
  | [], en, s => .ok .next en s
  | d :: ds, en, s => match f d en s with
    | .ok .next en2 s2 => forGo f ds en2 s2
    | .ok .cont en2 s2 => forGo f ds en2 s2
    | .ok .brk en2 s2 => .ok .next en2 s2
    | .ok (.ret v) en2 s2 => .ok (.ret v) en2 s2
    | .exc c vs en2 s2 => .exc c vs en2 s2
    | .bad => .bad
/-- a while's turns -/
def whileGo (c : Env → Sto → Res Bool) (f : Env → Sto → RS) : Nat → Env → Sto → RS
  | 0, _, _ => .bad
  | n + 1, en, s => (c en s).st en fun b s1 => if b then (match f en s1 with
      | .ok .next en2 s2 => whileGo c f n en2 s2
      | .ok .cont en2 s2 => whileGo c f n en2 s2
      | .ok .brk en2 s2 => .ok .next en2 s2
      | .ok (.ret v) en2 s2 => .ok (.ret v) en2 s2
      | .exc c vs en2 s2 => .exc c vs en2 s2
      | .bad => .bad) else .ok .next en s1
/-- more turns than any while makes -/
def fuel : Nat := 1000000

mutual
def ex (M : Sem) : St → Env → Sto → RS
  | .pass, en, s => .ok .next en s
  | .brk, en, s => .ok .brk en s
  | .cont, en, s => .ok .cont en s
  | .expr e, en, s => (ev M e en s).st en fun _ s1 => .ok .next en s1
  | .ret e, en, s => (ev M e en s).st en fun d s1 => .ok (.ret d) en s1
  | .retN, en, s => .ok (.ret .non) en s
  | .asg t e, en, s => (ev M e en s).st en fun d s1 => match t.bind d en with
    | some en2 => .ok .next en2 s1
    | none => .bad
  | .asgI o i e, en, s => (ev M e en s).st en fun v s1 => (ev M o en s1).st en fun x s2 => (ev M i en s2).st en fun y s3 => match D.setI x y v s3 with
    | some s4 => .ok .next en s4
    | none => .bad
  | .frz i, en, s => match en[i]? with
    | some (some (.loc n)) => match s.get n with
      | some c => if c.live then .ok .next (en.set i (some c.d)) (s.put n .dead) else .bad
      | none => .bad
    | _ => .bad
  | .ite c a b, en, s => ((ev M c en s).bind fun x s1 => Res.opt (x.truth s1) s1).st en fun k s1 => if k then exs M a en s1 else exs M b en s1
  | .forS t it b, en, s => (evIt M it en s).st en fun ds s1 => forGo (fun d en2 s2 => match t.bind d en2 with
    | some en3 => exs M b en3 s2
    | none => .bad) ds en s1
  | .whileS c b, en, s => whileGo (fun en2 s2 => (ev M c en2 s2).bind fun x s3 => Res.opt (x.truth s3) s3) (fun en2 s2 => exs M b en2 s2) fuel en s
def exs (M : Sem) : List St → Env → Sto → RS
  | [], en, s => .ok .next en s
  | c :: cs, en, s => (ex M c en s).bind fun en2 s2 => exs M cs en2 s2
end
/-! ### defs -/
structure Fn where
  np : Nat
  nn : Nat
  body : List St
  frz : Bool := false
  deriving Inhabited
/-- a def's end: what it made and does not hand back is let go -/
def fin (base : Nat) (frz : Bool) (d : D) (s : Sto) : Res D :=
  if d.mx ≤ Nat.max base s.flr then .ok d (s.cut base) else match d with
    | .loc n => match s.get n with
      | some c => if c.live && decide (c.mx ≤ Nat.max base s.flr) then (if frz then .ok c.d (s.cut base) else .ok (.loc (s.cut base).size) ((s.cut base).new c)) else .bad
      | none => .bad
    | d => .ok d s
def callFn (f : Fn) (M : Sem) (ds : List D) (s : Sto) : Res D :=
  if ds.length = f.np then match exs M f.body (ds.map some ++ List.replicate (f.nn - f.np) none) s with
    | .ok (.ret d) _ s1 => fin s.size f.frz d s1
    | .ok .next _ s1 => fin s.size f.frz .non s1
    | .exc c vs _ s1 => if D.mxs vs ≤ Nat.max s.size s1.flr then .exc c vs (s1.cut s.size) else .bad
    | _ => .bad
  else .bad
structure Tab where
  fns : List Fn
  glo : List Con
  ncl : Nat := 0
  deriving Inhabited
def run (T : Tab) : Nat → Sem
  | 0 => ⟨fun _ _ _ => .bad, fun g => T.glo[g]?.map Con.d, T.ncl⟩
  | k + 1 => ⟨fun f ds s => match T.fns[f]? with
    | some fn => callFn fn (run T k) ds s
    | none => .bad, fun g => T.glo[g]?.map Con.d, T.ncl⟩
end Zd

/-! Dp: how values, cells and the store lie in the layer's heap. -/
namespace Zd
open PySem L2

/-- names by number: classes, attributes -/
structure Nm where
  ca : Nat → Addr
  fn : Nat → Str
  K : PySem.W.Frag
/-- a list of the module's own -/
def KLst (K : PySem.W.Frag) (a : Addr) (xs : List V) : Prop := ∃ (o : Obj) (its : Array Value) (n : Nat), K.lookup a = some o ∧ o.cls = .type "list" ∧ o.dict = none ∧ o.data = .seq its n ∧ its.size ≤ sizeLine ∧ Vals xs its.toList
/-- what is known of the heap: what stays as it is, where the cells lie -/
structure Wd where
  fz : Addr → Option HO
  rho : Nat → Option Addr
  pv : Addr → Option HO
structure Wd.Lo (W W' : Wd) : Prop where
  fz : ∀ a o, W.fz a = some o → W'.fz a = some o
  rho : ∀ n a, W.rho n = some a → W'.rho n = some a
/-- pv: what an unfinished display keeps for itself -/
structure Wd.Le (W W' : Wd) : Prop extends Wd.Lo W W' where
  pv : ∀ a o, W.pv a = some o → W'.pv a = some o
theorem Wd.Le.refl (W : Wd) : W.Le W := ⟨⟨fun _ _ h => h, fun _ _ h => h⟩, fun _ _ h => h⟩
theorem Wd.Le.trans {W W' W'' : Wd} (a : W.Le W') (b : W'.Le W'') : W.Le W'' := ⟨⟨fun x o h => b.fz x o (a.fz x o h), fun n x h => b.rho n x (a.rho n x h)⟩, fun x o h => b.pv x o (a.pv x o h)⟩
/-- nobody knows of an address -/
abbrev Wd.Fr (W : Wd) (p : Addr) : Prop := (∀ n, W.rho n ≠ some p) ∧ W.pv p = none

def keyD : D → Option Key
  | .int i => some (.inl i)
  | .str x => some (.inr x)
  | _ => none
def tkeyD : D → Option (List Key)
  | .tup ds => ds.mapM keyD
  | _ => none
/-- a dict's keys and values -/
def DctO (ks : List D) (us : List V) (ho : Option HO) : Prop :=
  (∃ kk : List Key, ks.map keyD = kk.map some ∧ ho = some (.dK (kk.zip us)) ∧ kk.length = us.length) ∨
    (∃ kk : List (List Key), ks.map tkeyD = kk.map some ∧ ho = some (.dT (kk.zip us)) ∧ kk.length = us.length)
section
variable (N : Nm) (W : Wd)
mutual
def DV : D → V → Prop
  | .non, v => v = .non
  | .bl b, v => v = .bl b
  | .int i, v => v = .int i
  | .str x, v => v = .str x
  | .tup ds, v => ∃ a vs, v = .ref a ∧ W.fz a = some (.tup vs) ∧ DVs ds vs
  | .lst ds, v => ∃ a vs, v = .ref a ∧ W.fz a = some (.lst vs) ∧ DVs ds vs
  | .dct ks ds, v => ∃ a us, v = .ref a ∧ DctO ks us (W.fz a) ∧ DVs ds us
  | .ins c fs ds, v => ∃ a dx us, v = .ref a ∧ W.fz a = some (.ins (N.ca c) dx ((fs.map N.fn).zip us)) ∧ fs.length = ds.length ∧ DVs ds us
  | .loc n, v => ∃ a, v = .ref a ∧ W.rho n = some a
  | .lck ds, v => ∃ a vs, v = .ref a ∧ ((∃ o, W.fz a = some (.frz o (.lst vs))) ∨ KLst N.K a vs) ∧ DVs ds vs
def DVs : List D → List V → Prop
  | [], vs => vs = []
  | d :: ds, vs => ∃ x r, vs = x :: r ∧ DV d x ∧ DVs ds r
end
/-- what a cell says of its object -/
def CellOk (ho : Option HO) : Cell → Prop
  | .lst ds => ∃ vs, ho = some (.lst vs) ∧ DVs N W ds vs
  | .dct ks ds => ∃ us, DctO ks us ho ∧ DVs N W ds us
  | .ins c fs ds => ∃ dx us, ho = some (.ins (N.ca c) dx ((fs.map N.fn).zip us)) ∧ fs.length = ds.length ∧ DVs N W ds us
  | .dead => True
/-- the store lies in the heap -/
structure RH (s : Sto) (H : Hp) : Prop where
  fz : ∀ a o, W.fz a = some o → H a = some o
  cells : ∀ n c, s.get n = some c → ∃ a, W.rho n = some a ∧ (∃ o, H a = some o) ∧ CellOk N W (H a) c
  dom : ∀ n a, W.rho n = some a → n < s.size
  inj : ∀ n m a, W.rho n = some a → W.rho m = some a → n = m
  dis : ∀ n a, W.rho n = some a → s.get n ≠ some .dead → W.fz a = none
  wf : ∀ n c, s.get n = some c → c.mx ≤ Nat.max n s.flr
  flr : s.flr ≤ s.size
  pv : ∀ a o, W.pv a = some o → H a = some o
  dp : ∀ a o, W.pv a = some o → W.fz a = none ∧ ∀ n, W.rho n ≠ some a
end
variable {N : Nm} {W W' : Wd} {s s' : Sto} {H H' : Hp}

mutual
theorem DV.mono0 (l : W.Lo W') : ∀ {d : D} {v : V}, DV N W d v → DV N W' d v
  | .non, _, h => h
  | .bl _, _, h => h
  | .int _, _, h => h
  | .str _, _, h => h
  | .tup ds, _, h => by
    obtain ⟨a, vs, e, f, g⟩ := h
    exact ⟨a, vs, e, l.fz _ _ f, DVs.mono0 l g⟩
  | .lst ds, _, h => by
    obtain ⟨a, vs, e, f, g⟩ := h
    exact ⟨a, vs, e, l.fz _ _ f, DVs.mono0 l g⟩
  | .dct ks ds, _, h => by
    obtain ⟨a, us, e, f, g⟩ := h
    refine ⟨a, us, e, ?_, DVs.mono0 l g⟩
    rcases f with ⟨kk, e1, e2, e3⟩ | ⟨kk, e1, e2, e3⟩
    · exact .inl ⟨kk, e1, l.fz _ _ e2, e3⟩
    · exact .inr ⟨kk, e1, l.fz _ _ e2, e3⟩
  | .ins c fs ds, _, h => by
    obtain ⟨a, dx, us, e, f, g, k⟩ := h
    exact ⟨a, dx, us, e, l.fz _ _ f, g, DVs.mono0 l k⟩
  | .loc n, _, h => by
    obtain ⟨a, e, f⟩ := h
    exact ⟨a, e, l.rho _ _ f⟩
  | .lck ds, _, h => by
    obtain ⟨a, vs, e, f, g⟩ := h
    exact ⟨a, vs, e, f.imp (fun ⟨o, q⟩ => ⟨o, l.fz _ _ q⟩) id, DVs.mono0 l g⟩
theorem DVs.mono0 (l : W.Lo W') : ∀ {ds : List D} {vs : List V}, DVs N W ds vs → DVs N W' ds vs
  | [], _, h => h
  | d :: ds, _, h => by
    obtain ⟨x, r, e, f, g⟩ := h
    exact ⟨x, r, e, DV.mono0 l f, DVs.mono0 l g⟩
end
theorem DV.mono (l : W.Le W') {d : D} {v : V} (h : DV N W d v) : DV N W' d v := DV.mono0 l.toLo h
theorem DVs.mono (l : W.Le W') {ds : List D} {vs : List V} (h : DVs N W ds vs) : DVs N W' ds vs := DVs.mono0 l.toLo h
theorem DVs.length : ∀ {ds : List D} {vs : List V}, DVs N W ds vs → ds.length = vs.length
  | [], _, h => by cases (show _ = [] from h); rfl
  | d :: ds, _, h => by
    obtain ⟨x, r, e, _, g⟩ := h
    subst e
    rw [List.length_cons, List.length_cons, DVs.length g]
theorem DVs.nil : DVs N W [] [] := by simp [DVs]
theorem DVs.cons {d : D} {v : V} {ds : List D} {vs : List V} (h : DV N W d v) (t : DVs N W ds vs) : DVs N W (d :: ds) (v :: vs) := ⟨v, vs, rfl, h, t⟩
theorem DVs.nil_inv {vs : List V} (h : DVs N W [] vs) : vs = [] := h
theorem DVs.cons_inv {d : D} {ds : List D} {vs : List V} (h : DVs N W (d :: ds) vs) : ∃ v r, vs = v :: r ∧ DV N W d v ∧ DVs N W ds r := h
theorem DVs.append : ∀ {ds es : List D} {vs us : List V}, DVs N W ds vs → DVs N W es us → DVs N W (ds ++ es) (vs ++ us)
  | [], _, _, _, h, k => by cases (show _ = [] from h); exact k
  | d :: ds, _, _, _, h, k => by
    obtain ⟨x, r, e, f, g⟩ := h
    subst e
    exact .cons f (DVs.append g k)
theorem DVs.get : ∀ {ds : List D} {vs : List V} {i : Nat} {d : D}, DVs N W ds vs → ds[i]? = some d → ∃ v, vs[i]? = some v ∧ DV N W d v
  | [], _, _, _, _, e => by simp at e
  | _ :: _, _, 0, d, h, e => by
    obtain ⟨x, r, e1, f, g⟩ := h
    subst e1
    simp only [List.getElem?_cons_zero, Option.some.injEq] at e
    subst e
    exact ⟨x, rfl, f⟩
  | _ :: ds, _, i + 1, d, h, e => by
    obtain ⟨x, r, e1, f, g⟩ := h
    subst e1
    rw [List.getElem?_cons_succ] at e
    obtain ⟨v, h1, h2⟩ := DVs.get g e
    exact ⟨v, by rw [List.getElem?_cons_succ]; exact h1, h2⟩
theorem DVs.getV : ∀ {ds : List D} {vs : List V} {i : Nat} {v : V}, DVs N W ds vs → vs[i]? = some v → ∃ d, ds[i]? = some d ∧ DV N W d v
  | [], _, _, _, h, e => by cases (show _ = [] from h); simp at e
  | d :: _, _, 0, v, h, e => by
    obtain ⟨x, r, e1, f, g⟩ := h
    subst e1
    simp only [List.getElem?_cons_zero, Option.some.injEq] at e
    subst e
    exact ⟨d, rfl, f⟩
  | _ :: ds, _, i + 1, v, h, e => by
    obtain ⟨x, r, e1, f, g⟩ := h
    subst e1
    rw [List.getElem?_cons_succ] at e
    obtain ⟨d, h1, h2⟩ := DVs.getV g e
    exact ⟨d, by rw [List.getElem?_cons_succ]; exact h1, h2⟩
theorem DVs.set {d : D} {v : V} (h : DV N W d v) : ∀ {ds : List D} {vs : List V} (i : Nat), DVs N W ds vs → DVs N W (ds.set i d) (vs.set i v)
  | [], _, _, k => by cases (show _ = [] from k); exact .nil
  | _ :: _, _, 0, k => by
    obtain ⟨x, r, e1, f, g⟩ := k
    subst e1
    exact .cons h g
  | _ :: ds, _, i + 1, k => by
    obtain ⟨x, r, e1, f, g⟩ := k
    subst e1
    exact .cons f (DVs.set h i g)
theorem DVs.take : ∀ {ds : List D} {vs : List V} (n : Nat), DVs N W ds vs → DVs N W (ds.take n) (vs.take n)
  | _, _, 0, _ => .nil
  | [], _, n + 1, h => by cases (show _ = [] from h); exact .nil
  | d :: ds, _, n + 1, h => by
    obtain ⟨x, r, e1, f, g⟩ := h
    subst e1
    exact .cons f (DVs.take n g)
theorem DVs.drop : ∀ {ds : List D} {vs : List V} (n : Nat), DVs N W ds vs → DVs N W (ds.drop n) (vs.drop n)
  | _, _, 0, h => h
  | [], _, n + 1, h => by cases (show _ = [] from h); exact .nil
  | d :: ds, _, n + 1, h => by
    obtain ⟨x, r, e1, f, g⟩ := h
    subst e1
    exact DVs.drop n g


theorem mxs_zero : ∀ {l : List D}, (∀ d ∈ l, d.mx = 0) → D.mxs l = 0
  | [], _ => rfl
  | x :: r, h => by
    simp only [D.mxs]
    rw [h x List.mem_cons_self, mxs_zero fun d hd => h d (List.mem_cons_of_mem _ hd)]
    rfl
theorem keyD_mx {d : D} {k : Key} (h : keyD d = some k) : d.mx = 0 := by
  cases d <;> first | rfl | (simp [keyD] at h)
theorem keysD_mx : ∀ {ds : List D} {ks : List Key}, ds.mapM keyD = some ks → D.mxs ds = 0
  | [], _, _ => rfl
  | x :: r, _, h => by
    rw [List.mapM_cons] at h
    cases hx : keyD x with
    | none => rw [hx] at h; cases h
    | some y =>
      cases hr : r.mapM keyD with
      | none => rw [hx, hr] at h; cases h
      | some z =>
        simp only [D.mxs]
        rw [keyD_mx hx, keysD_mx hr]
        rfl
theorem tkeyD_mx {d : D} {k : List Key} (h : tkeyD d = some k) : d.mx = 0 := by
  cases d with
  | tup ds => simp only [D.mx]; exact keysD_mx h
  | _ => simp [tkeyD] at h
/-- the keys of a dict have no places -/
theorem keys_mx {ks : List D} {us : List V} {ho : Option HO} (h : DctO ks us ho) : D.mxs ks = 0 := by
  refine mxs_zero fun d hd => ?_
  rcases h with ⟨kk, e1, _, _⟩ | ⟨kk, e1, _, _⟩
  · have : keyD d ∈ kk.map some := by rw [← e1]; exact List.mem_map.mpr ⟨d, hd, rfl⟩
    obtain ⟨z, _, e⟩ := List.mem_map.mp this
    exact keyD_mx e.symm
  · have : tkeyD d ∈ kk.map some := by rw [← e1]; exact List.mem_map.mpr ⟨d, hd, rfl⟩
    obtain ⟨z, _, e⟩ := List.mem_map.mp this
    exact tkeyD_mx e.symm
mutual
/-- the places in a value are known -/
theorem DV.mx {b : Nat} (h : ∀ n a, W.rho n = some a → n < b) : ∀ {d : D} {v : V}, DV N W d v → d.mx ≤ b
  | .non, _, _ => Nat.zero_le _
  | .bl _, _, _ => Nat.zero_le _
  | .int _, _, _ => Nat.zero_le _
  | .str _, _, _ => Nat.zero_le _
  | .tup ds, _, k => by obtain ⟨a, vs, e, f, g⟩ := k; exact DVs.mx h g
  | .lst ds, _, k => by obtain ⟨a, vs, e, f, g⟩ := k; exact DVs.mx h g
  | .dct ks ds, _, k => by
    obtain ⟨a, us, e, f, g⟩ := k
    refine Nat.max_le.mpr ⟨?_, DVs.mx h g⟩
    rw [keys_mx f]
    exact Nat.zero_le _
  | .ins c fs ds, _, k => by obtain ⟨a, dx, us, e, f, g, q⟩ := k; exact DVs.mx h q
  | .loc n, _, k => by obtain ⟨a, e, f⟩ := k; exact h n a f
  | .lck ds, _, k => by obtain ⟨a, vs, e, f, g⟩ := k; exact DVs.mx h g
theorem DVs.mx {b : Nat} (h : ∀ n a, W.rho n = some a → n < b) : ∀ {ds : List D} {vs : List V}, DVs N W ds vs → D.mxs ds ≤ b
  | [], _, _ => Nat.zero_le _
  | d :: ds, _, k => by
    obtain ⟨x, r, e, f, g⟩ := k
    exact Nat.max_le.mpr ⟨DV.mx h f, DVs.mx h g⟩
end
theorem CellOk.mx {b : Nat} (h : ∀ n a, W.rho n = some a → n < b) {c : Cell} {ho : Option HO} (k : CellOk N W ho c) : c.mx ≤ b := by
  cases c with
  | lst ds => obtain ⟨vs, _, g⟩ := k; exact DVs.mx h g
  | dct ks ds =>
    obtain ⟨us, f, g⟩ := k
    refine Nat.max_le.mpr ⟨?_, DVs.mx h g⟩
    rw [keys_mx f]
    exact Nat.zero_le _
  | ins c fs ds => obtain ⟨dx, us, _, _, g⟩ := k; exact DVs.mx h g
  | dead => exact Nat.zero_le _
theorem CellOk.mono0 (l : W.Lo W') {c : Cell} {ho : Option HO} (k : CellOk N W ho c) : CellOk N W' ho c := by
  cases c with
  | lst ds => obtain ⟨vs, e, g⟩ := k; exact ⟨vs, e, g.mono0 l⟩
  | dct ks ds => obtain ⟨us, f, g⟩ := k; exact ⟨us, f, g.mono0 l⟩
  | ins c fs ds => obtain ⟨dx, us, e, f, g⟩ := k; exact ⟨dx, us, e, f, g.mono0 l⟩
  | dead => trivial

theorem CellOk.mono (l : W.Le W') {c : Cell} {ho : Option HO} (k : CellOk N W ho c) : CellOk N W' ho c := k.mono0 l.toLo

/-! ### the store and the heap -/
/-- other objects may come and go -/
theorem RH.frame (R : RH N W s H) (h : ∀ a o, (W.fz a = some o ∨ (∃ n, W.rho n = some a) ∨ W.pv a = some o) → H a = some o → H' a = some o) : RH N W s H' where
  fz := fun a o e => h a o (.inl e) (R.fz a o e)
  cells := fun n c e => by
    obtain ⟨a, e1, ⟨o, e2⟩, e3⟩ := R.cells n c e
    have e4 := h a o (.inr (.inl ⟨n, e1⟩)) e2
    exact ⟨a, e1, ⟨o, e4⟩, by rw [e4]; rw [e2] at e3; exact e3⟩
  dom := R.dom
  inj := R.inj
  dis := R.dis
  wf := R.wf
  flr := R.flr
  pv := fun a o e => h a o (.inr (.inr e)) (R.pv a o e)
  dp := R.dp
theorem RH.same (R : RH N W s H) (h : ∀ a o, H a = some o → H' a = some o) : RH N W s H' := R.frame fun a o _ => h a o
/-- an address that holds nothing is unknown -/
theorem RH.fresh (R : RH N W s H) {p : Addr} (h : H p = none) : W.fz p = none ∧ W.Fr p := by
  refine ⟨?_, fun n e => ?_, ?_⟩
  · cases e : W.fz p with
    | none => rfl
    | some o => rw [R.fz p o e] at h; cases h
  · have hn := R.dom n p e
    have : ∃ c, s.get n = some c := ⟨_, List.getElem?_eq_getElem hn⟩
    obtain ⟨c, hc⟩ := this
    obtain ⟨a, e1, ⟨o, e2⟩, _⟩ := R.cells n c hc
    rw [e] at e1
    cases e1
    rw [h] at e2
    cases e2
  · cases e : W.pv p with
    | none => rfl
    | some o => rw [R.pv p o e] at h; cases h
theorem RH.upd (R : RH N W s H) {p : Addr} {o : HO} (h : H p = none) : RH N W s (upd H p o) := R.same fun a u e => by rw [upd_ne (ne_of_none e h)]; exact e
/-- an object that nobody else holds stays as it is from now on -/
def Wd.frz (W : Wd) (p : Addr) (o : HO) : Wd := ⟨fun a => if a = p then some o else W.fz a, W.rho, W.pv⟩
theorem Wd.frz_le {p : Addr} {o : HO} (h : W.fz p = none) : W.Le (W.frz p o) := ⟨⟨fun a u e => by
  show (if a = p then some o else W.fz a) = some u
  by_cases q : a = p
  · subst q; rw [h] at e; cases e
  · rw [if_neg q]; exact e, fun _ _ e => e⟩, fun _ _ e => e⟩
theorem Wd.frz_at {p : Addr} {o : HO} : (W.frz p o).fz p = some o := if_pos rfl
theorem RH.freeze (R : RH N W s H) {p : Addr} {o : HO} (h : H p = some o) (h1 : W.fz p = none) (h2 : W.Fr p) : RH N (W.frz p o) s H where
  fz := fun a u e => by
    have e : (if a = p then some o else W.fz a) = some u := e
    by_cases q : a = p
    · subst q; rw [if_pos rfl] at e; rw [h]; exact e
    · rw [if_neg q] at e; exact R.fz a u e
  cells := fun n c e => by
    obtain ⟨a, e1, e2, e3⟩ := R.cells n c e
    exact ⟨a, e1, e2, e3.mono (Wd.frz_le h1)⟩
  dom := R.dom
  inj := R.inj
  dis := fun n a e nd => by
    show (if a = p then some o else W.fz a) = none
    rw [if_neg (fun q => h2.1 n (by rw [← q]; exact e))]
    exact R.dis n a e nd
  wf := R.wf
  flr := R.flr
  pv := R.pv
  dp := fun a u e => by
    refine ⟨?_, (R.dp a u e).2⟩
    show (if a = p then some o else W.fz a) = none
    have e : W.pv a = some u := e
    rw [if_neg (fun q => by rw [q, h2.2] at e; cases e)]
    exact (R.dp a u e).1
/-- an object that nobody else holds becomes a cell -/
def Wd.cel (W : Wd) (n : Nat) (p : Addr) : Wd := ⟨W.fz, fun m => if m = n then some p else W.rho m, W.pv⟩
theorem RH.cel_le (R : RH N W s H) {p : Addr} : W.Le (W.cel s.size p) := ⟨⟨fun _ _ e => e, fun n a e => by
  show (if n = s.size then some p else W.rho n) = some a
  rw [if_neg (Nat.ne_of_lt (R.dom n a e))]
  exact e⟩, fun _ _ e => e⟩
theorem Wd.cel_at {n : Nat} {p : Addr} : (W.cel n p).rho n = some p := if_pos rfl
theorem get_new {s : Sto} {c : Cell} {n : Nat} : (s.new c).get n = if n = s.size then some c else s.get n := by
  unfold Sto.new Sto.get Sto.size
  rw [List.getElem?_append]
  split
  · rename_i h; rw [if_neg (Nat.ne_of_lt h)]
  · rename_i h
    by_cases q : n = s.cells.length
    · subst q; simp
    · rw [if_neg q]
      have : s.cells.length < n := by omega
      rw [List.getElem?_eq_none (by simp; omega), List.getElem?_eq_none (by omega)]
theorem size_new {s : Sto} {c : Cell} : (s.new c).size = s.size + 1 := by unfold Sto.new Sto.size; simp
theorem RH.new (R : RH N W s H) {p : Addr} {o : HO} {c : Cell} (h : H p = some o) (h1 : W.fz p = none) (h2 : W.Fr p) (hc : CellOk N W (some o) c) : RH N (W.cel s.size p) (s.new c) H where
  fz := R.fz
  cells := fun n c' e => by
    rw [get_new] at e
    by_cases q : n = s.size
    · subst q
      rw [if_pos rfl] at e
      cases e
      exact ⟨p, Wd.cel_at, ⟨o, h⟩, by rw [h]; exact hc.mono R.cel_le⟩
    · rw [if_neg q] at e
      obtain ⟨a, e1, e2, e3⟩ := R.cells n c' e
      exact ⟨a, R.cel_le.rho _ _ e1, e2, e3.mono R.cel_le⟩
  dom := fun n a e => by
    rw [size_new]
    have e : (if n = s.size then some p else W.rho n) = some a := e
    by_cases q : n = s.size
    · omega
    · rw [if_neg q] at e; exact Nat.lt_succ_of_lt (R.dom n a e)
  inj := fun n m a e1 e2 => by
    have e1 : (if n = s.size then some p else W.rho n) = some a := e1
    have e2 : (if m = s.size then some p else W.rho m) = some a := e2
    by_cases q : n = s.size
    · by_cases r : m = s.size
      · rw [q, r]
      · rw [if_pos q] at e1; rw [if_neg r] at e2; cases e1; exact absurd e2 (h2.1 m)
    · by_cases r : m = s.size
      · rw [if_neg q] at e1; rw [if_pos r] at e2; cases e2; exact absurd e1 (h2.1 n)
      · rw [if_neg q] at e1; rw [if_neg r] at e2; exact R.inj n m a e1 e2
  dis := fun n a e nd => by
    have e : (if n = s.size then some p else W.rho n) = some a := e
    show W.fz a = none
    rw [get_new] at nd
    by_cases q : n = s.size
    · rw [if_pos q] at e; cases e; exact h1
    · rw [if_neg q] at e nd; exact R.dis n a e nd
  wf := fun n c' e => by
    rw [get_new] at e
    show c'.mx ≤ Nat.max n s.flr
    by_cases q : n = s.size
    · rw [if_pos q] at e; cases e
      rw [q]
      exact Nat.le_trans (hc.mx R.dom) (Nat.le_max_left _ _)
    · rw [if_neg q] at e; exact R.wf n c' e
  flr := by
    show s.flr ≤ (s.new c).size
    rw [size_new]
    exact Nat.le_succ_of_le R.flr
  pv := R.pv
  dp := fun a u e => by
    refine ⟨(R.dp a u e).1, fun n z => ?_⟩
    have z : (if n = s.size then some p else W.rho n) = some a := z
    by_cases q : n = s.size
    · rw [if_pos q] at z; cases z; have e : W.pv p = some u := e; rw [h2.2] at e; cases e
    · rw [if_neg q] at z; exact (R.dp a u e).2 n z
theorem get_put {s : Sto} {n m : Nat} {c : Cell} (h : n < s.size) : (s.put n c).get m = if m = n then some c else s.get m := by
  unfold Sto.put Sto.get
  show (s.cells.set n c)[m]? = _
  rw [List.getElem?_set]
  by_cases q : n = m
  · subst q
    rw [if_pos rfl, if_pos rfl]
    exact if_pos h
  · rw [if_neg q, if_neg (fun z => q z.symm)]
theorem size_put {s : Sto} {n : Nat} {c : Cell} : (s.put n c).size = s.size := by unfold Sto.put Sto.size; simp
theorem get_lt {s : Sto} {n : Nat} {c : Cell} (h : s.get n = some c) : n < s.size := (List.getElem?_eq_some_iff.mp h).1
/-- a cell's object is changed -/
theorem RH.put (R : RH N W s H) {n : Nat} {a : Addr} {o : HO} {c : Cell} (ha : W.rho n = some a) (nd : s.get n ≠ some .dead) (hc : CellOk N W (some o) c) : RH N W (s.put n c) (L2.upd H a o) where
  fz := fun b u e => by
    rw [upd_ne (fun q => by rw [q] at e; rw [R.dis n a ha nd] at e; cases e)]
    exact R.fz b u e
  cells := fun m c' e => by
    rw [get_put (R.dom n a ha)] at e
    by_cases q : m = n
    · subst q
      rw [if_pos rfl] at e
      cases e
      exact ⟨a, ha, ⟨o, upd_same⟩, by rw [upd_same]; exact hc⟩
    · rw [if_neg q] at e
      obtain ⟨b, e1, e2, e3⟩ := R.cells m c' e
      have nb : b ≠ a := fun z => q (R.inj m n b e1 (by rw [z]; exact ha))
      exact ⟨b, e1, by rw [upd_ne nb]; exact e2, by rw [upd_ne nb]; exact e3⟩
  dom := fun m b e => by rw [size_put]; exact R.dom m b e
  inj := R.inj
  dis := fun m b e k => by
    rw [get_put (R.dom n a ha)] at k
    by_cases q : m = n
    · subst q; exact R.dis m b e nd
    · rw [if_neg q] at k; exact R.dis m b e k
  wf := fun m c' e => by
    rw [get_put (R.dom n a ha)] at e
    have hm := hc.mx R.dom
    by_cases q : m = n
    · rw [if_pos q] at e; cases e
      rw [q]
      show c.mx ≤ Nat.max n (if c.mx ≤ n then s.flr else Nat.max s.flr c.mx)
      by_cases z : c.mx ≤ n
      · exact Nat.le_trans z (Nat.le_max_left _ _)
      · rw [if_neg z]; exact Nat.le_trans (Nat.le_max_right _ _) (Nat.le_max_right _ _)
    · rw [if_neg q] at e
      refine Nat.le_trans (R.wf m c' e) ?_
      show Nat.max m s.flr ≤ Nat.max m (if c.mx ≤ n then s.flr else Nat.max s.flr c.mx)
      refine Nat.max_le.mpr ⟨Nat.le_max_left _ _, Nat.le_trans ?_ (Nat.le_max_right _ _)⟩
      split
      · exact Nat.le_refl _
      · exact Nat.le_max_left _ _
  flr := by
    rw [size_put]
    show (if c.mx ≤ n then s.flr else Nat.max s.flr c.mx) ≤ s.size
    split
    · exact R.flr
    · exact Nat.max_le.mpr ⟨R.flr, hc.mx R.dom⟩
  pv := fun b u e => by
    rw [upd_ne (fun q => (R.dp b u e).2 n (by rw [q]; exact ha))]
    exact R.pv b u e
  dp := R.dp
/-! ### letting go -/
def Wd.cut (W : Wd) (b : Nat) : Wd := ⟨W.fz, fun n => if n < b then W.rho n else none, W.pv⟩
mutual
theorem DV.cut {b : Nat} : ∀ {d : D} {v : V}, DV N W d v → d.mx ≤ b → DV N (W.cut b) d v
  | .non, _, h, _ => h
  | .bl _, _, h, _ => h
  | .int _, _, h, _ => h
  | .str _, _, h, _ => h
  | .tup ds, _, h, m => by
    obtain ⟨a, vs, e, f, g⟩ := h
    exact ⟨a, vs, e, f, DVs.cut g m⟩
  | .lst ds, _, h, m => by
    obtain ⟨a, vs, e, f, g⟩ := h
    exact ⟨a, vs, e, f, DVs.cut g m⟩
  | .dct ks ds, _, h, m => by
    obtain ⟨a, us, e, f, g⟩ := h
    exact ⟨a, us, e, f, DVs.cut g (Nat.max_le.mp m).2⟩
  | .ins c fs ds, _, h, m => by
    obtain ⟨a, dx, us, e, f, g, k⟩ := h
    exact ⟨a, dx, us, e, f, g, DVs.cut k m⟩
  | .loc n, _, h, m => by
    obtain ⟨a, e, f⟩ := h
    exact ⟨a, e, by show (if n < b then W.rho n else none) = some a; rw [if_pos (show n < b from m)]; exact f⟩
  | .lck ds, _, h, m => by
    obtain ⟨a, vs, e, f, g⟩ := h
    exact ⟨a, vs, e, f, DVs.cut g m⟩
theorem DVs.cut {b : Nat} : ∀ {ds : List D} {vs : List V}, DVs N W ds vs → D.mxs ds ≤ b → DVs N (W.cut b) ds vs
  | [], _, h, _ => h
  | d :: ds, _, h, m => by
    obtain ⟨x, r, e, f, g⟩ := h
    exact ⟨x, r, e, DV.cut f (Nat.max_le.mp m).1, DVs.cut g (Nat.max_le.mp m).2⟩
end
theorem CellOk.cut {b : Nat} {c : Cell} {ho : Option HO} (k : CellOk N W ho c) (m : c.mx ≤ b) : CellOk N (W.cut b) ho c := by
  cases c with
  | lst ds => obtain ⟨vs, e, g⟩ := k; exact ⟨vs, e, g.cut m⟩
  | dct ks ds => obtain ⟨us, f, g⟩ := k; exact ⟨us, f, g.cut (Nat.max_le.mp m).2⟩
  | ins c fs ds => obtain ⟨dx, us, e, f, g⟩ := k; exact ⟨dx, us, e, f, g.cut m⟩
  | dead => trivial
theorem get_cut {s : Sto} {b n : Nat} : (s.cut b).get n = if n < Nat.max b s.flr then s.get n else none := by
  unfold Sto.cut Sto.get
  show (s.cells.take (Nat.max b s.flr))[n]? = _
  rw [List.getElem?_take]
theorem size_cut {s : Sto} {b : Nat} : (s.cut b).size = Nat.min (Nat.max b s.flr) s.size := by
  unfold Sto.cut Sto.size
  exact List.length_take ..
theorem RH.cut (R : RH N W s H) (b : Nat) : RH N (W.cut (Nat.max b s.flr)) (s.cut b) H where
  fz := R.fz
  cells := fun n c e => by
    rw [get_cut] at e
    by_cases q : n < Nat.max b s.flr
    · rw [if_pos q] at e
      obtain ⟨a, e1, e2, e3⟩ := R.cells n c e
      refine ⟨a, ?_, e2, e3.cut (Nat.le_trans (R.wf n c e) (Nat.max_le.mpr ⟨Nat.le_of_lt q, Nat.le_max_right _ _⟩))⟩
      show (if n < Nat.max b s.flr then W.rho n else none) = some a
      rw [if_pos q]; exact e1
    · rw [if_neg q] at e; cases e
  dom := fun n a e => by
    have e : (if n < Nat.max b s.flr then W.rho n else none) = some a := e
    by_cases q : n < Nat.max b s.flr
    · rw [if_pos q] at e
      rw [size_cut]
      exact Nat.lt_min.mpr ⟨q, R.dom n a e⟩
    · rw [if_neg q] at e; cases e
  inj := fun n m a e1 e2 => by
    have e1 : (if n < Nat.max b s.flr then W.rho n else none) = some a := e1
    have e2 : (if m < Nat.max b s.flr then W.rho m else none) = some a := e2
    by_cases q : n < Nat.max b s.flr
    · by_cases r : m < Nat.max b s.flr
      · rw [if_pos q] at e1; rw [if_pos r] at e2; exact R.inj n m a e1 e2
      · rw [if_neg r] at e2; cases e2
    · rw [if_neg q] at e1; cases e1
  dis := fun n a e nd => by
    have e : (if n < Nat.max b s.flr then W.rho n else none) = some a := e
    rw [get_cut] at nd
    by_cases q : n < Nat.max b s.flr
    · rw [if_pos q] at e nd; exact R.dis n a e nd
    · rw [if_neg q] at e; cases e
  wf := fun n c e => by
    rw [get_cut] at e
    by_cases q : n < Nat.max b s.flr
    · rw [if_pos q] at e; exact R.wf n c e
    · rw [if_neg q] at e; cases e
  flr := by
    show s.flr ≤ (s.cut b).size
    rw [size_cut]
    exact Nat.le_min.mpr ⟨Nat.le_max_right _ _, R.flr⟩
  pv := R.pv
  dp := fun a u e => by
    refine ⟨(R.dp a u e).1, fun n z => ?_⟩
    have z : (if n < Nat.max b s.flr then W.rho n else none) = some a := z
    by_cases q : n < Nat.max b s.flr
    · rw [if_pos q] at z; exact (R.dp a u e).2 n z
    · rw [if_neg q] at z; cases z
/-- what stood before stands behind -/
theorem Wd.Le.cut {b : Nat} (l : W.Le W') (h : ∀ n a, W.rho n = some a → n < b) : W.Le (W'.cut b) := ⟨⟨l.fz, fun n a e => by
  show (if n < b then W'.rho n else none) = some a
  rw [if_pos (h n a e)]
  exact l.rho n a e⟩, l.pv⟩
/-- a cell is taken out of the store; its object stays as it is -/
theorem RH.take (R : RH N W s H) {n : Nat} {c : Cell} (h : s.get n = some c) : ∃ a o, W.rho n = some a ∧ H a = some o ∧ CellOk N W (some o) c := by
  obtain ⟨a, e1, ⟨o, e2⟩, e3⟩ := R.cells n c h
  exact ⟨a, o, e1, e2, by rw [e2] at e3; exact e3⟩
theorem flr_dead {s : Sto} {n : Nat} : (s.put n .dead).flr = s.flr := by
  simp [Sto.put, Cell.mx]
/-- a cell is let go; its object stays as it is from now on -/
theorem RH.kill (R : RH N W s H) {n : Nat} {a : Addr} {o : HO} (ha : W.rho n = some a) (h : H a = some o) (nd : s.get n ≠ some .dead) : W.Le (W.frz a o) ∧ RH N (W.frz a o) (s.put n .dead) H := by
  have h1 := R.dis n a ha nd
  have hp : W.pv a = none := by
    cases e : W.pv a with
    | none => rfl
    | some u => exact absurd ha ((R.dp a u e).2 n)
  refine ⟨Wd.frz_le h1, ?_⟩
  exact {
    fz := fun b u e => by
      have e : (if b = a then some o else W.fz b) = some u := e
      by_cases q : b = a
      · rw [if_pos q] at e; cases e; rw [q]; exact h
      · rw [if_neg q] at e; exact R.fz b u e
    cells := fun m c e => by
      rw [get_put (R.dom n a ha)] at e
      by_cases q : m = n
      · rw [if_pos q] at e; cases e
        exact ⟨a, by rw [q]; exact ha, ⟨o, h⟩, trivial⟩
      · rw [if_neg q] at e
        obtain ⟨b, e1, e2, e3⟩ := R.cells m c e
        exact ⟨b, e1, e2, e3.mono (Wd.frz_le h1)⟩
    dom := fun m b e => by rw [size_put]; exact R.dom m b e
    inj := R.inj
    dis := fun m b e k => by
      rw [get_put (R.dom n a ha)] at k
      by_cases q : m = n
      · rw [if_pos q] at k; exact absurd rfl k
      · rw [if_neg q] at k
        show (if b = a then some o else W.fz b) = none
        rw [if_neg (fun z => q (R.inj m n b e (by rw [z]; exact ha)))]
        exact R.dis m b e k
    wf := fun m c e => by
      rw [get_put (R.dom n a ha)] at e
      have fl : (s.put n .dead).flr = s.flr := flr_dead
      rw [fl]
      by_cases q : m = n
      · rw [if_pos q] at e; cases e; exact Nat.zero_le _
      · rw [if_neg q] at e; exact R.wf m c e
    flr := by
      rw [size_put, flr_dead]
      exact R.flr
    pv := R.pv
    dp := fun b u e => by
      have e : W.pv b = some u := e
      refine ⟨?_, (R.dp b u e).2⟩
      show (if b = a then some o else W.fz b) = none
      rw [if_neg (fun z => by rw [z, hp] at e; cases e)]
      exact (R.dp b u e).1 }
/-! ### what is kept for oneself -/
def Wd.own (W : Wd) (p : Addr) (o : Option HO) : Wd := ⟨W.fz, W.rho, fun a => if a = p then o else W.pv a⟩
theorem Wd.own_lo {p : Addr} {o : Option HO} : W.Lo (W.own p o) := ⟨fun _ _ e => e, fun _ _ e => e⟩
theorem Wd.own_le {p : Addr} {o : Option HO} (h : W.pv p = none) : W.Le (W.own p o) := ⟨Wd.own_lo, fun a u e => by
  show (if a = p then o else W.pv a) = some u
  rw [if_neg (fun q => by rw [q] at e; rw [h] at e; cases e)]
  exact e⟩
theorem Wd.own_at {p : Addr} {o : Option HO} : (W.own p o).pv p = o := if_pos rfl
theorem RH.own (R : RH N W s H) {p : Addr} {o : HO} (h1 : W.fz p = none) (h2 : ∀ n, W.rho n ≠ some p) : RH N (W.own p (some o)) s (L2.upd H p o) where
  fz := fun a u e => by
    have e : W.fz a = some u := e
    rw [upd_ne (fun q => by rw [q, h1] at e; cases e)]
    exact R.fz a u e
  cells := fun n c e => by
    obtain ⟨a, e1, e2, e3⟩ := R.cells n c e
    have q : L2.upd H p o a = H a := upd_ne (fun q => h2 n (by rw [← q]; exact e1))
    exact ⟨a, e1, by rw [q]; exact e2, by rw [q]; exact e3.mono0 Wd.own_lo⟩
  dom := R.dom
  inj := R.inj
  dis := R.dis
  wf := R.wf
  flr := R.flr
  pv := fun a u e => by
    have e : (if a = p then some o else W.pv a) = some u := e
    by_cases q : a = p
    · rw [if_pos q] at e; cases e; rw [q]; exact upd_same
    · rw [if_neg q] at e; rw [upd_ne q]; exact R.pv a u e
  dp := fun a u e => by
    have e : (if a = p then some o else W.pv a) = some u := e
    by_cases q : a = p
    · rw [q]; exact ⟨h1, h2⟩
    · rw [if_neg q] at e; exact R.dp a u e
theorem RH.disown (R : RH N W s H) {p : Addr} : RH N (W.own p none) s H where
  fz := R.fz
  cells := fun n c e => by
    obtain ⟨a, e1, e2, e3⟩ := R.cells n c e
    exact ⟨a, e1, e2, e3.mono0 Wd.own_lo⟩
  dom := R.dom
  inj := R.inj
  dis := R.dis
  wf := R.wf
  flr := R.flr
  pv := fun a u e => by
    have e : (if a = p then none else W.pv a) = some u := e
    by_cases q : a = p
    · rw [if_pos q] at e; cases e
    · rw [if_neg q] at e; exact R.pv a u e
  dp := fun a u e => by
    have e : (if a = p then none else W.pv a) = some u := e
    by_cases q : a = p
    · rw [if_pos q] at e; cases e
    · rw [if_neg q] at e; exact R.dp a u e
end Zd

/-! Dp: what an expression, a statement of the text says of the evaluator. -/
namespace Zd
open PySem PySem.Spec PyProof.Rows L2

/-- names: more -/
structure Names extends Nm where
  xf : Nat → List Str
/-- an error: its class, its fields -/
def XcOk (N : Names) (W : Wd) (c : Nat) (vs : List D) (cls : Value) (d : Option Addr) (H : Hp) : Prop :=
  cls = .ref (N.ca c) ∧ ∃ us, DVs N.toNm W vs us ∧ vs.length = (N.xf c).length ∧ ((N.xf c = [] ∧ d = none) ∨ ∃ dx, d = some dx ∧ H dx = some (.xd ((N.xf c).zip us)))

section
variable (N : Names)
/-- the slots hold the values -/
def EnvOk (W : Wd) (en : Env) (σ : L2.St) : Prop := en.length = σ.length ∧ ∀ (i : Nat) (d : D), en[i]? = some (some d) → ∃ v, σ[i]? = some (some v) ∧ DV N.toNm W d v
/-- what is wanted of a result -/
def Post {α β : Type} (rel : Wd → α → β → Prop) (r : Res α) (W : Wd) (Q : β → Hp → Prop) (E : XK) : Prop := match r with
  | .ok a s => ∀ W' H' v, W.Le W' → RH N.toNm W' s H' → rel W' a v → Q v H'
  | .exc c vs s => ∀ W' H' cls d, W.Le W' → RH N.toNm W' s H' → XcOk N W' c vs cls d H' → E cls d H'
  | .bad => False
abbrev DVr (W : Wd) (d : D) (v : V) : Prop := DV N.toNm W d v
abbrev DVsr (W : Wd) (d : List D) (v : List V) : Prop := DVs N.toNm W d v
/-- a new object that nobody else holds -/
def NewV (W : Wd) (H : Hp) (d : D) (v : V) : Prop := ∃ p o c, v = .ref p ∧ d.cell = some c ∧ H p = some o ∧ W.fz p = none ∧ W.Fr p ∧ CellOk N.toNm W (some o) c
def PostN (r : Res D) (W : Wd) (Q : VK) (E : XK) : Prop := match r with
  | .ok a s => ∀ W' H' v, W.Le W' → RH N.toNm W' s H' → NewV N W' H' a v → Q v H'
  | .exc c vs s => ∀ W' H' cls d, W.Le W' → RH N.toNm W' s H' → XcOk N W' c vs cls d H' → E cls d H'
  | .bad => False
/-- the reading of an expression by the evaluator's -/
def Rd (m : Env → Sto → Res D) (E : WX) : TE := fun σ H Q => ∃ W s en, RH N.toNm W s H ∧ EnvOk N W en σ ∧ Post N (DVr N) (m en s) W Q (fun c d H => E c d σ H)
def RdN (m : Env → Sto → Res D) (E : WX) : TE := fun σ H Q => ∃ W s en, RH N.toNm W s H ∧ EnvOk N W en σ ∧ PostN N (m en s) W Q (fun c d H => E c d σ H)
def RdT (m : Env → Sto → Res Bool) (E : WX) : TT := fun σ H Q => ∃ W s en, RH N.toNm W s H ∧ EnvOk N W en σ ∧ Post N (fun _ (a b : Bool) => a = b) (m en s) W Q (fun c d H => E c d σ H)
def RdA (m : Env → Sto → Res (List D)) (E : WX) : TA := fun σ H Q => ∃ W s en, RH N.toNm W s H ∧ EnvOk N W en σ ∧ Post N (DVsr N) (m en s) W Q (fun c d H => E c d σ H)
structure JE (X : Cx) (e : Expr) (m : Env → Sto → Res D) : Prop where
  run : ∀ E, Takes X E → PE X e (Rd N m E)
structure JN (X : Cx) (e : Expr) (m : Env → Sto → Res D) : Prop where
  run : ∀ E, Takes X E → PE X e (RdN N m E)
structure JT (X : Cx) (e : Expr) (m : Env → Sto → Res Bool) : Prop where
  run : ∀ E, Takes X E → PT X e (RdT N m E)
structure JA (X : Cx) (es : List Expr) (m : Env → Sto → Res (List D)) : Prop where
  run : ∀ E, Takes X E → PA X es (RdA N m E)
end
section
variable {N : Names} {W W' : Wd} {s s' : Sto} {H H' : Hp} {en : Env} {σ : L2.St}

theorem EnvOk.mono (l : W.Le W') (h : EnvOk N W en σ) : EnvOk N W' en σ := ⟨h.1, fun i d e => let ⟨v, a, b⟩ := h.2 i d e; ⟨v, a, b.mono l⟩⟩
theorem Post.mono {α β : Type} {rel : Wd → α → β → Prop} {r : Res α} {Q : β → Hp → Prop} {E : XK} (l : W.Le W') (h : Post N rel r W Q E) : Post N rel r W' Q E := by
  cases r with
  | ok a s => exact fun W2 H2 v l2 R r2 => h W2 H2 v (l.trans l2) R r2
  | exc c vs s => exact fun W2 H2 cls d l2 R r2 => h W2 H2 cls d (l.trans l2) R r2
  | bad => exact h
theorem PostN.mono {r : Res D} {Q : VK} {E : XK} (l : W.Le W') (h : PostN N r W Q E) : PostN N r W' Q E := by
  cases r with
  | ok a s => exact fun W2 H2 v l2 R r2 => h W2 H2 v (l.trans l2) R r2
  | exc c vs s => exact fun W2 H2 cls d l2 R r2 => h W2 H2 cls d (l.trans l2) R r2
  | bad => exact h
theorem Post.bind {α β γ δ : Type} {rel : Wd → α → β → Prop} {rel2 : Wd → γ → δ → Prop} {r : Res α} {f : α → Sto → Res γ} {Q : δ → Hp → Prop} {E : XK} (h : Post N rel2 (r.bind f) W Q E) :
    Post N rel r W (fun v H1 => ∃ W1 s1 a, W.Le W1 ∧ RH N.toNm W1 s1 H1 ∧ rel W1 a v ∧ Post N rel2 (f a s1) W1 Q E) E := by
  cases r with
  | ok a s => exact fun W1 H1 v l R r1 => ⟨W1, s, a, l, R, r1, Post.mono l h⟩
  | exc c vs s => exact h
  | bad => exact h
theorem PostN.bind {α β : Type} {rel : Wd → α → β → Prop} {r : Res α} {f : α → Sto → Res D} {Q : VK} {E : XK} (h : PostN N (r.bind f) W Q E) :
    Post N rel r W (fun v H1 => ∃ W1 s1 a, W.Le W1 ∧ RH N.toNm W1 s1 H1 ∧ rel W1 a v ∧ PostN N (f a s1) W1 Q E) E := by
  cases r with
  | ok a s => exact fun W1 H1 v l R r1 => ⟨W1, s, a, l, R, r1, PostN.mono l h⟩
  | exc c vs s => exact h
  | bad => exact h
theorem Post.imp {α β : Type} {rel : Wd → α → β → Prop} {r : Res α} {Q Q' : β → Hp → Prop} {E : XK} (h : Post N rel r W Q E) (k : ∀ v H, Q v H → Q' v H) : Post N rel r W Q' E := by
  cases r with
  | ok a s => exact fun W2 H2 v l2 R r2 => k _ _ (h W2 H2 v l2 R r2)
  | exc c vs s => exact h
  | bad => exact h
theorem Post.opt {α β : Type} {rel : Wd → α → β → Prop} {o : Option α} {Q : β → Hp → Prop} {E : XK} (h : Post N rel (Res.opt o s) W Q E) : ∃ a, o = some a ∧ ∀ W' H' v, W.Le W' → RH N.toNm W' s H' → rel W' a v → Q v H' := by
  cases o with
  | none => exact False.elim h
  | some a => exact ⟨a, rfl, h⟩
/-- what is new may stay as it is -/
theorem NewV.freeze {d : D} {v : V} (R : RH N.toNm W s H) (h : NewV N W H d v) : ∃ W', W.Le W' ∧ RH N.toNm W' s H ∧ DV N.toNm W' d v := by
  obtain ⟨p, o, c, rfl, hc, hp, h1, h2, k⟩ := h
  refine ⟨W.frz p o, Wd.frz_le h1, R.freeze hp h1 h2, ?_⟩
  have l := Wd.frz_le (W := W) (o := o) h1
  cases d with
  | lst ds =>
    cases hc
    obtain ⟨vs, e, g⟩ := k
    cases e
    exact ⟨p, vs, rfl, Wd.frz_at, g.mono l⟩
  | dct ks ds =>
    cases hc
    obtain ⟨us, f, g⟩ := k
    exact ⟨p, us, rfl, by rw [Wd.frz_at]; exact f, g.mono l⟩
  | _ => cases hc
theorem Post.toN {r : Res D} {Q : VK} {E : XK} (h : Post N (DVr N) r W Q E) : PostN N r W Q E := by
  cases r with
  | ok a s =>
    intro W1 H1 v l R nv
    obtain ⟨W2, l2, R2, dv⟩ := nv.freeze R
    exact h W2 H1 v (l.trans l2) R2 dv
  | exc c vs s => exact h
  | bad => exact h
theorem _root_.L2.PE.imp {X : Cx} {e : Expr} {t t' : TE} (h : PE X e t) (k : ∀ σ H Q, t' σ H Q → t σ H Q) : PE X e t' := ⟨fun pins s σ H Q I q => h.run pins s σ H Q I (k σ H Q q)⟩
theorem _root_.L2.PT.imp {X : Cx} {e : Expr} {t t' : TT} (h : PT X e t) (k : ∀ σ H Q, t' σ H Q → t σ H Q) : PT X e t' := ⟨fun pins s σ H Q I q => h.run pins s σ H Q I (k σ H Q q)⟩
theorem _root_.L2.PA.imp {X : Cx} {es : List Expr} {t t' : TA} (h : PA X es t) (k : ∀ σ H Q, t' σ H Q → t σ H Q) : PA X es t' := ⟨fun pos pins s σ H Q I q => h.run pos pins s σ H Q I (k σ H Q q)⟩
theorem JN.je {X : Cx} {e : Expr} {m : Env → Sto → Res D} (h : JN N X e m) : JE N X e m := ⟨fun E tk => (h.run E tk).imp fun σ H Q ⟨W, s, en, R, eo, p⟩ => ⟨W, s, en, R, eo, p.toN⟩⟩

/-! ### names, constants -/
variable {X : Cx} {e a b c : Expr} {pos : Pos}
theorem je_var {i : Nat} {x : Str} (M : Sem) (hN : X.N[i]? = some x) (hv : Vis X.env.scope x) (hd : (x == ("__debug__" : Str)) = false) (hcd : (x == ("__classdict__" : Str)) = false) : JE N X (.Name x pos) (ev M (.var i)) := by
  refine ⟨fun E tk => (pe_var hN hv hd hcd).imp fun σ H Q ⟨W, s, en, R, eo, p⟩ => ?_⟩
  simp only [ev] at p
  cases h : en[i]? with
  | none => rw [h] at p; exact False.elim p
  | some o =>
    cases o with
    | none => rw [h] at p; exact False.elim p
    | some d =>
      rw [h] at p
      obtain ⟨v, h1, h2⟩ := eo.2 i d h
      exact ⟨v, h1, p W H v (Wd.Le.refl W) R h2⟩
theorem je_con {e : Expr} {v : V} {d : D} (h : PE X e (tC v)) (hd : ∀ W : Wd, DV N.toNm W d v) : JE N X e (fun _ s => .ok d s) :=
  ⟨fun E tk => h.imp fun σ H Q ⟨W, s, en, R, eo, p⟩ => p W H v (Wd.Le.refl W) R (hd W)⟩

/-! ### operations on values -/
/-- what an operation asks -/
def rOp2 (N : Names) (g : D → D → Sto → Option D) : R2 := fun x y H Q => ∃ W s a b z, RH N.toNm W s H ∧ DV N.toNm W a x ∧ DV N.toNm W b y ∧ g a b s = some z ∧ ∀ W' H' v, W.Le W' → RH N.toNm W' s H' → DV N.toNm W' z v → Q v H'
theorem rd_op2 {ma mb : Env → Sto → Res D} {g : D → D → Sto → Option D} {E : WX} {Q : VK} (h : Rd N (fun en s => (ma en s).bind fun x s1 => (mb en s1).bind fun y s2 => Res.opt (g x y s2) s2) E σ H Q) :
    tOp (rOp2 N g) (Rd N ma E) (Rd N mb E) σ H Q := by
  obtain ⟨W, s, en, R, eo, p⟩ := h
  refine ⟨W, s, en, R, eo, (Post.bind (rel := DVr N) p).imp fun v H1 ⟨W1, s1, x, l1, R1, dx, p1⟩ => ?_⟩
  refine ⟨W1, s1, en, R1, eo.mono l1, (Post.bind (rel := DVr N) p1).imp fun u H2 ⟨W2, s2, y, l2, R2, dy, p2⟩ => ?_⟩
  obtain ⟨z, hz, q⟩ := p2.opt
  exact ⟨W2, s2, x, y, z, R2, dx.mono l2, dy, hz, q⟩
theorem je_bin {op : Operator} {g : D → D → Sto → Option D} {ma mb : Env → Sto → Res D} (ho : OpR X (binaryOp op) (rOp2 N g)) (ha : JE N X a ma) (hb : JE N X b mb) :
    JE N X (.BinOp a op b pos) (fun en s => (ma en s).bind fun x s1 => (mb en s1).bind fun y s2 => Res.opt (g x y s2) s2) :=
  ⟨fun E tk => (pe_op ho (ha.run E tk) (hb.run E tk)).imp fun σ H Q h => rd_op2 h⟩
theorem je_cmp {op : CmpOp} {g : D → D → Sto → Option D} {ma mb : Env → Sto → Res D} (ho : OpR X (compareOp op) (rOp2 N g)) (ha : JE N X a ma) (hb : JE N X b mb) (hm : behindInMarks op b = false) :
    JE N X (.Compare a [op] [b] pos) (fun en s => (ma en s).bind fun x s1 => (mb en s1).bind fun y s2 => Res.opt (g x y s2) s2) :=
  ⟨fun E tk => (pe_cmpR ho (ha.run E tk) (hb.run E tk) hm).imp fun σ H Q h => rd_op2 h⟩
end
end Zd

/-! Zd: the operations on values are the text's. -/
namespace Zd
open PySem PySem.Spec PyProof.Rows L2
section
variable {N : Names} {X : Cx} {W : Wd} {s : Sto} {H : Hp}
theorem lim_le {n : Nat} (h : n ≤ lim) : n ≤ sizeLine := Nat.le_trans h (by rw [sizeLine_eq]; decide)
theorem lim_lt {n : Nat} (h : n < lim) : n < sizeLine := Nat.lt_of_lt_of_le h (by rw [sizeLine_eq]; decide)
/-- a list read through the store -/
theorem lst_at (R : RH N.toNm W s H) {d : D} {v : V} {ds : List D} (h : DV N.toNm W d v) (e : d.lst? s = some ds) : ∃ a vs, v = .ref a ∧ H a = some (.lst vs) ∧ DVs N.toNm W ds vs := by
  cases d with
  | lst es =>
    cases e
    obtain ⟨a, vs, rfl, f, g⟩ := h
    exact ⟨a, vs, rfl, R.fz _ _ f, g⟩
  | loc n =>
    simp only [D.lst?] at e
    obtain ⟨a, rfl, f⟩ := h
    cases hc : s.get n with
    | none => rw [hc] at e; cases e
    | some c =>
      rw [hc] at e
      cases c with
      | lst es =>
        cases e
        obtain ⟨a', o, e1, e2, vs, e3, g⟩ := R.take hc
        rw [f] at e1
        cases e1
        cases e3
        exact ⟨a, vs, rfl, e2, g⟩
      | _ => cases e
  | _ => cases e
/-- a list or a tuple -/
theorem lck_at {K : PySem.W.Frag} (hK : N.K = K) (R : RH N.toNm W s H) {ds : List D} {v : V} (h : DV N.toNm W (.lck ds) v) : ∃ a vs, v = .ref a ∧ SqL K H a vs ∧ DVs N.toNm W ds vs := by
  obtain ⟨a, vs, e, f, g⟩ := h
  refine ⟨a, vs, e, ?_, g⟩
  rcases f with ⟨o, f⟩ | f
  · exact .inl (.inr ⟨o, R.fz _ _ f⟩)
  · exact .inr (by rw [← hK]; exact f)
theorem seq_at (K : PySem.W.Frag) (hK : N.K = K) (R : RH N.toNm W s H) {d : D} {v : V} {ds : List D} (h : DV N.toNm W d v) (e : d.seq? s = some ds) : ∃ a vs, v = .ref a ∧ (SqL K H a vs ∨ SqT K H a vs) ∧ DVs N.toNm W ds vs := by
  cases d with
  | lst es =>
    cases e
    obtain ⟨a, vs, rfl, f, g⟩ := h
    exact ⟨a, vs, rfl, .inl (SqL.of (R.fz _ _ f)), g⟩
  | tup es =>
    cases e
    obtain ⟨a, vs, rfl, f, g⟩ := h
    exact ⟨a, vs, rfl, .inr (SqT.of (R.fz _ _ f)), g⟩
  | lck es =>
    cases e
    obtain ⟨a, vs, e1, q, g⟩ := lck_at hK R h
    exact ⟨a, vs, e1, .inl q, g⟩
  | loc n =>
    obtain ⟨a, vs, e1, e2, e3⟩ := lst_at R (d := .loc n) h e
    exact ⟨a, vs, e1, .inl (SqL.of e2), e3⟩
  | _ => cases e
/-- what is wanted of a value, in short -/
abbrev Out (N : Names) (W : Wd) (s : Sto) (z : D) (Q : VK) : Prop := ∀ W' H' v, W.Le W' → RH N.toNm W' s H' → DV N.toNm W' z v → Q v H'
theorem Out.val {z : D} {Q : VK} {v : V} (h : Out N W s z Q) (R : RH N.toNm W s H) (d : DV N.toNm W z v) : Q v H := h W H v (Wd.Le.refl W) R d
/-- a new tuple | list -/
theorem Out.tup {ds : List D} {vs : List V} {Q : VK} {p : Addr} (h : Out N W s (.tup ds) Q) (R : RH N.toNm W s H) (g : DVs N.toNm W ds vs) (hp : H p = none) : Q (.ref p) (upd H p (.tup vs)) := by
  obtain ⟨f1, f2⟩ := R.fresh hp
  have l := Wd.frz_le (o := HO.tup vs) f1
  exact h _ _ _ l ((R.upd hp).freeze upd_same f1 f2) ⟨p, vs, rfl, Wd.frz_at, g.mono l⟩
theorem Out.lst {ds : List D} {vs : List V} {Q : VK} {p : Addr} (h : Out N W s (.lst ds) Q) (R : RH N.toNm W s H) (g : DVs N.toNm W ds vs) (hp : H p = none) : Q (.ref p) (upd H p (.lst vs)) := by
  obtain ⟨f1, f2⟩ := R.fresh hp
  have l := Wd.frz_le (o := HO.lst vs) f1
  exact h _ _ _ l ((R.upd hp).freeze upd_same f1 f2) ⟨p, vs, rfl, Wd.frz_at, g.mono l⟩

/-! ### operators -/
theorem mulOk_ok {i j : Int} (h : mulOk i j = true) : CMulW i j := by
  unfold mulOk at h
  unfold CMulW
  exact of_decide_eq_true h
theorem divOk_ok {i j : Int} (h : divOk j = true) : CDivW i j := by
  unfold divOk at h
  rw [Bool.and_eq_true] at h
  exact ⟨of_decide_eq_true h.1, of_decide_eq_true h.2⟩
theorem op_powW : OpR X (binaryOp .Pow) (rI (fun i j => powOk i j = true) fun i j => .int (i ^ j.toNat)) := opI fun i j _ _ _ _ _ hc q => by
  unfold powOk at hc
  rw [Bool.and_eq_true] at hc
  have h1 := of_decide_eq_true hc.1
  have h2 := of_decide_eq_true hc.2
  refine pow_int h1 ?_ q
  have b : (Builtin.Int.intBits i : Int) ≤ (i.natAbs.log2 : Int) + 1 := by
    have : Builtin.Int.intBits i ≤ i.natAbs.log2 + 1 := by
      unfold Builtin.Int.intBits
      split <;> omega
    omega
  have m := Int.mul_le_mul_of_nonneg_right b h1
  have e : (2 : Int) ^ 27 = 134217728 := by decide
  rw [e]
  omega
theorem ob_add : OpR X (binaryOp .Add) (rOp2 N (D.bin .add)) := by
  intro pins t σ H x y v u Q I rx ry h
  obtain ⟨W, s, a, b, z, R, da, db, hz, q⟩ := h
  have hz : D.add a b s = some z := hz
  have lists : ((a.lst? s).bind fun a => (b.lst? s).bind fun b => if a.length + b.length ≤ lim then some (D.lst (a ++ b)) else none) = some z → wpAny (model X.prog X.w) X.A (binaryOp .Add v u) (EP X pins σ Q) X.xe t := by
    intro e
    cases h1 : a.lst? s with
    | none => rw [h1] at e; cases e
    | some xs =>
      cases h2 : b.lst? s with
      | none => rw [h1, h2] at e; cases e
      | some ys =>
        rw [h1, h2] at e
        have e : (if xs.length + ys.length ≤ lim then some (D.lst (xs ++ ys)) else none) = some z := e
        by_cases hl : xs.length + ys.length ≤ lim
        · rw [if_pos hl] at e
          cases e
          obtain ⟨p, vs, rfl, hp, g⟩ := lst_at R da h1
          obtain ⟨p2, us, rfl, hp2, g2⟩ := lst_at R db h2
          refine op_cat pins t σ H _ _ v u Q I rx ry ⟨p, p2, vs, us, rfl, rfl, hp, hp2, lim_le (by rw [← g.length, ← g2.length]; exact hl), fun p3 h3 => ?_⟩
          exact Out.lst q R (g.append g2) h3
        · rw [if_neg hl] at e; cases e
  cases a with
  | int i =>
    cases b with
    | int j =>
      cases hz
      cases da; cases db
      exact op_add pins t σ H _ _ v u Q I rx ry ⟨i, j, rfl, rfl, Out.val q R (by simp [DV])⟩
    | _ => cases hz
  | str i =>
    cases b with
    | str j =>
      have hz : (if i.length + j.length ≤ lim then some (D.str (i ++ j)) else none) = some z := hz
      by_cases hl : i.length + j.length ≤ lim
      · rw [if_pos hl] at hz
        cases hz
        cases da; cases db
        exact op_add_str pins t σ H _ _ v u Q I rx ry ⟨i, j, rfl, rfl, lim_le hl, Out.val q R (by simp [DV])⟩
      · rw [if_neg hl] at hz; cases hz
    | _ => cases hz
  | tup i =>
    cases b with
    | tup j =>
      have hz : (if i.length + j.length ≤ lim then some (D.tup (i ++ j)) else none) = some z := hz
      by_cases hl : i.length + j.length ≤ lim
      · rw [if_pos hl] at hz
        cases hz
        obtain ⟨p, vs, rfl, f, g⟩ := da
        obtain ⟨p2, us, rfl, f2, g2⟩ := db
        refine op_catA pins t σ H _ _ v u Q I rx ry ⟨p, p2, vs, us, rfl, rfl, SqT.of (R.fz _ _ f), SqT.of (R.fz _ _ f2), lim_le (by rw [← g.length, ← g2.length]; exact hl), fun e => ?_, fun _ e => ?_, fun _ _ p3 h3 => ?_⟩
        · subst e
          have ei : i = [] := List.eq_nil_of_length_eq_zero g.length
          subst ei
          exact Out.val q R ⟨p2, us, rfl, f2, g2⟩
        · subst e
          have ej : j = [] := List.eq_nil_of_length_eq_zero g2.length
          subst ej
          rw [List.append_nil] at q
          exact Out.val q R ⟨p, vs, rfl, f, g⟩
        · exact Out.tup q R (g.append g2) h3
      · rw [if_neg hl] at hz; cases hz
    | _ => cases hz
  | _ => exact lists hz
theorem ints_of {o : BOp} {f : Int → Int → Option D} {a b z : D} (h : (match a with
    | .int i => match b with
      | .int j => f i j
      | _ => none
    | _ => none) = some z) : ∃ i j, a = .int i ∧ b = .int j ∧ f i j = some z := by
  cases a with
  | int i =>
    cases b with
    | int j => exact ⟨i, j, rfl, rfl, h⟩
    | _ => cases h
  | _ => cases h
theorem ob_sub : OpR X (binaryOp .Sub) (rOp2 N (D.bin .sub)) := by
  intro pins t σ H x y v u Q I rx ry h
  obtain ⟨W, s, a, b, z, R, da, db, hz, q⟩ := h
  obtain ⟨i, j, rfl, rfl, e⟩ := ints_of (o := .sub) (f := fun i j => some (.int (i - j))) hz
  cases e; cases da; cases db
  exact op_sub pins t σ H _ _ v u Q I rx ry ⟨i, j, rfl, rfl, Out.val q R (by simp [DV])⟩
theorem ob_mul : OpR X (binaryOp .Mult) (rOp2 N (D.bin .mul)) := by
  intro pins t σ H x y v u Q I rx ry h
  obtain ⟨W, s, a, b, z, R, da, db, hz, q⟩ := h
  have hz : D.mul a b s = some z := hz
  cases a with
  | int i =>
    cases b with
    | int j =>
      have hz : (if mulOk i j then some (D.int (i * j)) else none) = some z := hz
      by_cases hl : mulOk i j = true
      · rw [if_pos hl] at hz
        cases hz; cases da; cases db
        exact op_mulW pins t σ H _ _ v u Q I rx ry ⟨i, j, rfl, rfl, mulOk_ok hl, Out.val q R (by simp [DV])⟩
      · rw [if_neg hl] at hz; cases hz
    | _ => cases hz
  | _ => cases hz
theorem ob_mod : OpR X (binaryOp .Mod) (rOp2 N (D.bin .mod)) := by
  intro pins t σ H x y v u Q I rx ry h
  obtain ⟨W, s, a, b, z, R, da, db, hz, q⟩ := h
  obtain ⟨i, j, rfl, rfl, e⟩ := ints_of (o := .mod) (f := fun i j => if 0 < j then some (.int (i % j)) else none) hz
  by_cases hl : 0 < j
  · rw [if_pos hl] at e
    cases e; cases da; cases db
    exact op_mod pins t σ H _ _ v u Q I rx ry ⟨i, j, rfl, rfl, hl, Out.val q R (by simp [DV])⟩
  · rw [if_neg hl] at e; cases e
theorem ob_fdiv : OpR X (binaryOp .FloorDiv) (rOp2 N (D.bin .fdiv)) := by
  intro pins t σ H x y v u Q I rx ry h
  obtain ⟨W, s, a, b, z, R, da, db, hz, q⟩ := h
  obtain ⟨i, j, rfl, rfl, e⟩ := ints_of (o := .fdiv) (f := fun i j => if divOk j then some (.int (i / j)) else none) hz
  by_cases hl : divOk j = true
  · rw [if_pos hl] at e
    cases e; cases da; cases db
    exact op_fdivW pins t σ H _ _ v u Q I rx ry ⟨i, j, rfl, rfl, divOk_ok hl, Out.val q R (by simp [DV])⟩
  · rw [if_neg hl] at e; cases e
theorem ob_pow : OpR X (binaryOp .Pow) (rOp2 N (D.bin .pow)) := by
  intro pins t σ H x y v u Q I rx ry h
  obtain ⟨W, s, a, b, z, R, da, db, hz, q⟩ := h
  obtain ⟨i, j, rfl, rfl, e⟩ := ints_of (o := .pow) (f := fun i j => if powOk i j then some (.int (i ^ j.toNat)) else none) hz
  by_cases hl : powOk i j = true
  · rw [if_pos hl] at e
    cases e; cases da; cases db
    exact op_powW pins t σ H _ _ v u Q I rx ry ⟨i, j, rfl, rfl, hl, Out.val q R (by simp [DV])⟩
  · rw [if_neg hl] at e; cases e

/-! ### comparisons -/
mutual
/-- data as the library's data -/
theorem dp_of (K : PySem.W.Frag) (R : RH N.toNm W s H) : ∀ {d : D} {v : V}, DV N.toNm W d v → d.eqOk = true → L2.Dp K H v d.py
  | .non, _, h, _ => by cases h; exact .non
  | .bl b, _, h, _ => by cases h; exact .bl b
  | .int i, _, h, _ => by cases h; exact .int i
  | .str x, _, h, _ => by cases h; exact .str x
  | .tup ds, _, h, k => by
    obtain ⟨a, vs, rfl, f, g⟩ := h
    exact .tup (SqT.of (R.fz _ _ f)) (dps_of K R g k)
  | .lst ds, _, h, k => by
    obtain ⟨a, vs, rfl, f, g⟩ := h
    exact .lst (SqL.of (R.fz _ _ f)) (dps_of K R g k)
  | .dct _ _, _, _, k => by cases k
  | .ins _ _ _, _, _, k => by cases k
  | .loc _, _, _, k => by cases k
  | .lck _, _, _, k => by cases k
theorem dps_of (K : PySem.W.Frag) (R : RH N.toNm W s H) : ∀ {ds : List D} {vs : List V}, DVs N.toNm W ds vs → D.eqOks ds = true → L2.DpAll K H vs (D.pys ds)
  | [], _, h, _ => by cases (show _ = [] from h); exact .nil
  | d :: ds, _, h, k => by
    obtain ⟨x, r, rfl, f, g⟩ := h
    have k : (d.eqOk && D.eqOks ds) = true := k
    rw [Bool.and_eq_true] at k
    exact .cons (dp_of K R f k.1) (dps_of K R g k.2)
end
mutual
theorem py_lay : ∀ {d : D}, d.eqOk = true → d.py.canLay0 = true
  | .non, _ => by simp [D.py, PyData.canLay0]
  | .bl _, _ => by simp [D.py, PyData.canLay0]
  | .int _, _ => by simp [D.py, PyData.canLay0]
  | .str _, h => by simp only [D.py, PyData.canLay0]; exact h
  | .tup ds, h => by simp only [D.py, PyData.canLay0]; exact pys_lay h
  | .lst ds, h => by simp only [D.py, PyData.canLay0]; exact pys_lay h
  | .dct _ _, k => by cases k
  | .ins _ _ _, k => by cases k
  | .loc _, k => by cases k
  | .lck _, k => by cases k
theorem pys_lay : ∀ {ds : List D}, D.eqOks ds = true → PyData.canLayAll0 (D.pys ds) = true
  | [], _ => by simp [D.pys, PyData.canLayAll0]
  | d :: ds, h => by
    have k : (d.eqOk && D.eqOks ds) = true := h
    rw [Bool.and_eq_true] at k
    simp only [D.pys, PyData.canLayAll0, Bool.and_eq_true]
    exact ⟨py_lay k.1, pys_lay k.2⟩
end
mutual
theorem py_depth : ∀ {d : D}, d.eqOk = true → d.py.depth = d.depth
  | .non, _ => by simp [D.py, PyData.depth, D.depth]
  | .bl _, _ => by simp [D.py, PyData.depth, D.depth]
  | .int _, _ => by simp [D.py, PyData.depth, D.depth]
  | .str _, _ => by simp [D.py, PyData.depth, D.depth]
  | .tup ds, h => by simp only [D.py, PyData.depth, D.depth, pys_depth (show D.eqOks ds = true from h)]; omega
  | .lst ds, h => by simp only [D.py, PyData.depth, D.depth, pys_depth (show D.eqOks ds = true from h)]; omega
  | .dct _ _, k => by cases k
  | .ins _ _ _, k => by cases k
  | .loc _, k => by cases k
  | .lck _, k => by cases k
theorem pys_depth : ∀ {ds : List D}, D.eqOks ds = true → PyData.depthAll (D.pys ds) = D.depths ds
  | [], _ => by simp [D.pys, PyData.depthAll, D.depths]
  | d :: ds, h => by
    have k : (d.eqOk && D.eqOks ds) = true := h
    rw [Bool.and_eq_true] at k
    simp only [D.pys, PyData.depthAll, D.depths, py_depth k.1, pys_depth k.2] <;> rfl
end
mutual
theorem py_eqv : ∀ {a b : D}, a.eqOk = true → b.eqOk = true → PyData.eqv a.py b.py = D.eqv a b
  | .tup xs, b, h, k => by
    cases b with
    | tup ys => simp only [D.py, PyData.eqv, D.eqv]; exact pys_eqv h k
    | _ => first | (cases k; done) | simp [D.py, PyData.eqv, D.eqv]
  | .lst xs, b, h, k => by
    cases b with
    | lst ys => simp only [D.py, PyData.eqv, D.eqv]; exact pys_eqv h k
    | _ => first | (cases k; done) | simp [D.py, PyData.eqv, D.eqv]
  | .non, b, _, k => by cases b <;> first | (cases k; done) | simp [D.py, PyData.eqv, D.eqv]
  | .bl _, b, _, k => by cases b <;> first | (cases k; done) | simp [D.py, PyData.eqv, D.eqv]
  | .int _, b, _, k => by cases b <;> first | (cases k; done) | simp [D.py, PyData.eqv, D.eqv]
  | .str _, b, _, k => by cases b <;> first | (cases k; done) | simp [D.py, PyData.eqv, D.eqv]
  | .dct _ _, _, k, _ => by cases k
  | .ins _ _ _, _, k, _ => by cases k
  | .loc _, _, k, _ => by cases k
  | .lck _, _, k, _ => by cases k
theorem pys_eqv : ∀ {as bs : List D}, D.eqOks as = true → D.eqOks bs = true → PyData.eqvAll (D.pys as) (D.pys bs) = D.eqvs as bs
  | [], [], _, _ => by simp [D.pys, PyData.eqvAll, D.eqvs]
  | [], _ :: _, _, _ => by simp [D.pys, PyData.eqvAll, D.eqvs]
  | _ :: _, [], _, _ => by simp [D.pys, PyData.eqvAll, D.eqvs]
  | a :: as, b :: bs, h, k => by
    have h : (a.eqOk && D.eqOks as) = true := h
    have k : (b.eqOk && D.eqOks bs) = true := k
    rw [Bool.and_eq_true] at h k
    simp only [D.pys, PyData.eqvAll, D.eqvs, py_eqv h.1 k.1, pys_eqv h.2 k.2]
end
/-- a list's cell read -/
theorem res_at (K : PySem.W.Frag) (R : RH N.toNm W s H) {d : D} {v : V} (h : DV N.toNm W d v) (e : (d.res s).eqOk = true) : L2.Dp K H v (d.res s).py := by
  cases d with
  | loc n =>
    cases hc : s.get n with
    | none => simp only [D.res, hc] at e; cases e
    | some c =>
      cases c with
      | lst es =>
        simp only [D.res, hc] at e ⊢
        obtain ⟨a, rfl, f⟩ := h
        obtain ⟨a', o, e1, e2, vs, e3, g⟩ := R.take hc
        rw [f] at e1
        cases e1
        cases e3
        exact .lst (SqL.of e2) (dps_of K R g e)
      | _ => simp only [D.res, hc] at e; cases e
  | _ => exact dp_of K R h e
theorem eqRoom_ok {x y : D} (h : eqRoom x y = true) : x.eqOk = true ∧ y.eqOk = true ∧ SeqAt.shaped x.py = true ∧ SeqAt.shaped y.py = true := by
  unfold eqRoom at h
  simp only [Bool.and_eq_true, decide_eq_true_eq] at h
  obtain ⟨⟨⟨h1, h2⟩, h3⟩, h4⟩ := h
  refine ⟨h1, h2, ?_, ?_⟩
  · unfold SeqAt.shaped
    rw [py_lay h1, py_depth h1, Bool.true_and]
    exact decide_eq_true (by omega)
  · unfold SeqAt.shaped
    rw [py_lay h2, py_depth h2, Bool.true_and]
    exact decide_eq_true (by omega)
theorem eqV_cases {x y z : D} {neg : Bool} (h : D.eqV x y neg = some z) : (∃ a b, x = .str a ∧ y = .str b ∧ z = .bl ((a == b) != neg)) ∨ (eqRoom x y = true ∧ z = .bl (D.eqv x y != neg)) := by
  have other : (if eqRoom x y then some (D.bl (D.eqv x y != neg)) else none) = some z → eqRoom x y = true ∧ z = .bl (D.eqv x y != neg) := fun e => by
    by_cases hl : eqRoom x y = true
    · rw [if_pos hl] at e; cases e; exact ⟨hl, rfl⟩
    · rw [if_neg hl] at e; cases e
  cases x with
  | str a =>
    cases y with
    | str b => cases h; exact .inl ⟨a, b, rfl, rfl, rfl⟩
    | _ => exact .inr (other h)
  | _ => exact .inr (other h)
theorem res_str {d : D} {a : Str} (h : d.res s = .str a) : d = .str a := by
  cases d with
  | loc n =>
    cases hc : s.get n with
    | none => simp only [D.res, hc] at h; cases h
    | some c => cases c <;> simp only [D.res, hc] at h <;> cases h
  | _ => exact h
theorem oc_eq (hu : X.A.units + 64 < cLine) : OpR X (compareOp .Eq) (rOp2 N (D.cmp .eq)) := by
  intro pins t σ H x y v u Q I rx ry h
  obtain ⟨W, s, a, b, z, R, da, db, hz, q⟩ := h
  rcases eqV_cases (show D.eqV (a.res s) (b.res s) false = some z from hz) with ⟨i, j, h1, h2, rfl⟩ | ⟨hl, rfl⟩
  · rw [res_str h1] at da
    rw [res_str h2] at db
    cases da; cases db
    refine op_eq pins t σ H _ _ v u Q I rx ry ⟨rfl, ?_⟩
    rw [dec_str]
    exact Out.val q R (by simp [DV])
  · obtain ⟨h1, h2, h3, h4⟩ := eqRoom_ok hl
    refine op_eqD hu pins t σ H _ _ v u Q I rx ry ⟨_, _, res_at X.K R da h1, res_at X.K R db h2, h3, h4, ?_⟩
    rw [py_eqv h1 h2]
    exact Out.val q R (by simp [DV])
theorem oc_ne (hu : X.A.units + 64 < cLine) : OpR X (compareOp .NotEq) (rOp2 N (D.cmp .ne)) := by
  intro pins t σ H x y v u Q I rx ry h
  obtain ⟨W, s, a, b, z, R, da, db, hz, q⟩ := h
  rcases eqV_cases (show D.eqV (a.res s) (b.res s) true = some z from hz) with ⟨i, j, h1, h2, rfl⟩ | ⟨hl, rfl⟩
  · rw [res_str h1] at da
    rw [res_str h2] at db
    cases da; cases db
    refine op_ne pins t σ H _ _ v u Q I rx ry ⟨rfl, ?_⟩
    rw [dec_str]
    exact Out.val q R (by simp [DV])
  · obtain ⟨h1, h2, h3, h4⟩ := eqRoom_ok hl
    refine op_neD hu pins t σ H _ _ v u Q I rx ry ⟨_, _, res_at X.K R da h1, res_at X.K R db h2, h3, h4, ?_⟩
    rw [py_eqv h1 h2]
    exact Out.val q R (by simp [DV])
theorem oc_ord {op : CmpOp} {o : COp} {fi : Int → Int → Bool} {fs : Str → Str → Bool} (ho : ∀ a b s, D.cmp o a b s = (match a, b with
    | .int i, .int j => some (.bl (fi i j))
    | .str i, .str j => some (.bl (fs i j))
    | _, _ => none)) (hi : OpR X (compareOp op) (rI0 fun i j => .bl (fi i j))) (hs : OpR X (compareOp op) (fun x y H Q => ∃ i j, x = .str i ∧ y = .str j ∧ Q (.bl (fs i j)) H)) : OpR X (compareOp op) (rOp2 N (D.cmp o)) := by
  intro pins t σ H x y v u Q I rx ry h
  obtain ⟨W, s, a, b, z, R, da, db, hz, q⟩ := h
  rw [ho] at hz
  cases a with
  | int i =>
    cases b with
    | int j =>
      cases hz; cases da; cases db
      exact hi pins t σ H _ _ v u Q I rx ry ⟨i, j, rfl, rfl, Out.val q R (by simp [DV])⟩
    | _ => cases hz
  | str i =>
    cases b with
    | str j =>
      cases hz; cases da; cases db
      exact hs pins t σ H _ _ v u Q I rx ry ⟨i, j, rfl, rfl, Out.val q R (by simp [DV])⟩
    | _ => cases hz
  | _ => cases b <;> cases hz
theorem oc_lt : OpR X (compareOp .Lt) (rOp2 N (D.cmp .lt)) := oc_ord (fi := fun i j => decide (i < j)) (fs := strLt) (fun a b s => by cases a <;> cases b <;> rfl) op_lt op_lt_str
theorem oc_gt : OpR X (compareOp .Gt) (rOp2 N (D.cmp .gt)) := oc_ord (fi := fun i j => decide (j < i)) (fs := fun a b => strLt b a) (fun a b s => by cases a <;> cases b <;> rfl) op_gt op_gt_str
theorem oc_le : OpR X (compareOp .LtE) (rOp2 N (D.cmp .le)) := oc_ord (fi := fun i j => decide (i ≤ j)) (fs := strLe) (fun a b s => by cases a <;> cases b <;> rfl) op_le op_le_str
theorem oc_ge : OpR X (compareOp .GtE) (rOp2 N (D.cmp .ge)) := oc_ord (fi := fun i j => decide (j ≤ i)) (fs := fun a b => strLe b a) (fun a b s => by cases a <;> cases b <;> rfl) op_ge op_ge_str
theorem oc_in : OpR X (compareOp .In) (rOp2 N (D.cmp .isIn)) := by
  intro pins t σ H x y v u Q I rx ry h
  obtain ⟨W, s, a, b, z, R, da, db, hz, q⟩ := h
  cases a with
  | str i =>
    cases b with
    | str j =>
      cases hz; cases da; cases db
      exact op_in_str pins t σ H _ _ v u Q I rx ry ⟨i, j, rfl, rfl, Out.val q R (by simp [DV, strIn])⟩
    | _ => cases hz
  | _ => cases b <;> cases hz
theorem oc_notIn : OpR X (compareOp .NotIn) (rOp2 N (D.cmp .notIn)) := by
  intro pins t σ H x y v u Q I rx ry h
  obtain ⟨W, s, a, b, z, R, da, db, hz, q⟩ := h
  cases a with
  | str i =>
    cases b with
    | str j =>
      cases hz; cases da; cases db
      exact L2.op_notin_str pins t σ H _ _ v u Q I rx ry ⟨i, j, rfl, rfl, Out.val q R (by simp [DV, strIn])⟩
    | _ => cases hz
  | _ => cases b <;> cases hz
theorem dv_non {d : D} {v : V} (h : DV N.toNm W d v) : decide (v = .non) = d.isNon := by
  cases d <;> simp only [DV] at h <;> first
    | (subst h; simp [D.isNon])
    | (obtain ⟨a, b, c, rfl, _⟩ := h; simp [D.isNon])
    | (obtain ⟨a, b, rfl, _⟩ := h; simp [D.isNon])
    | (obtain ⟨a, rfl, _⟩ := h; simp [D.isNon])
theorem oc_isN : OpR X (compareOp .Is) (rOp2 N (D.cmp .isN)) := by
  intro pins t σ H x y v u Q I rx ry h
  obtain ⟨W, s, a, b, z, R, da, db, hz, q⟩ := h
  cases b with
  | non =>
    cases hz; cases db
    exact op_isN pins t σ H _ _ v u Q I rx ry ⟨rfl, by rw [dv_non da]; exact Out.val q R (by simp [DV])⟩
  | _ => cases hz
theorem oc_notN : OpR X (compareOp .IsNot) (rOp2 N (D.cmp .notN)) := by
  intro pins t σ H x y v u Q I rx ry h
  obtain ⟨W, s, a, b, z, R, da, db, hz, q⟩ := h
  cases b with
  | non =>
    cases hz; cases db
    exact op_notN pins t σ H _ _ v u Q I rx ry ⟨rfl, by rw [dv_non da]; exact Out.val q R (by simp [DV])⟩
  | _ => cases hz
end
end Zd

/-! Zd: expressions: truth, displays, places, slices, calls of built-ins. -/
namespace Zd
open PySem PySem.Spec PyProof.Rows L2
section
variable {N : Names} {X : Cx} {W : Wd} {s : Sto} {H : Hp} {a b c : Expr} {pos : Pos} {M : Sem}

/-! ### truth -/
def tru (m : Env → Sto → Res D) (en : Env) (s : Sto) : Res Bool := (m en s).bind fun x s1 => Res.opt (x.truth s1) s1
theorem truth_at (K : PySem.W.Frag) (R : RH N.toNm W s H) {d : D} {v : V} {k : Bool} (h : DV N.toNm W d v) (e : d.truth s = some k) : TruV K v H k := by
  cases d with
  | non => cases h; cases e; rfl
  | bl b => cases h; cases e; rfl
  | int i => cases h; cases e; rfl
  | str x =>
    cases h
    have e : (if x.length ≤ lim then some ((x.length : Int) != 0) else none) = some k := e
    by_cases hl : x.length ≤ lim
    · rw [if_pos hl] at e; cases e; exact ⟨lim_le hl, rfl⟩
    · rw [if_neg hl] at e; cases e
  | tup ds =>
    cases e
    obtain ⟨a, vs, rfl, f, g⟩ := h
    refine .inr (.inl ⟨vs, SqT.of (R.fz _ _ f), ?_⟩)
    have := g.length
    cases ds <;> cases vs <;> simp at this ⊢
  | lst ds =>
    cases e
    obtain ⟨a, vs, rfl, f, g⟩ := h
    refine .inl ⟨vs, SqL.of (R.fz _ _ f), ?_⟩
    have := g.length
    cases ds <;> cases vs <;> simp at this ⊢
  | loc n =>
    cases hc : s.get n with
    | none => simp only [D.truth, hc] at e; cases e
    | some c =>
      cases c with
      | lst ds =>
        simp only [D.truth, hc] at e
        cases e
        obtain ⟨a, vs, rfl, f, g⟩ := lst_at R (d := .loc n) (ds := ds) h (by simp only [D.lst?, hc])
        refine .inl ⟨vs, SqL.of f, ?_⟩
        have := g.length
        cases ds <;> cases vs <;> simp at this ⊢
      | _ => simp only [D.truth, hc] at e; cases e
  | _ => cases e
/-- any expression whose test is its value's truth -/
theorem jt_plain {ma : Env → Sto → Res D} (ha : JE N X a ma) (he : ∀ whole, isTrue a X.env whole = (do let v ← whole; standAt a.pos; holding [v] (truthy v))) : JT N X a (tru ma) := by
  refine ⟨fun E tk => (pt_truth (ha.run E tk) he).imp fun σ H Q ⟨W, s, en, R, eo, p⟩ => ?_⟩
  refine ⟨W, s, en, R, eo, (Post.bind (rel := DVr N) p).imp fun v H1 ⟨W1, s1, x, l1, R1, dx, p1⟩ => ?_⟩
  obtain ⟨k, hk, q⟩ := p1.opt
  exact ⟨k, truth_at X.K R1 dx hk, q W1 H1 k (Wd.Le.refl _) R1 rfl⟩
/-- a test, then what is done -/
def mNot (ma : Env → Sto → Res D) (en : Env) (s : Sto) : Res D := (ma en s).bind fun x s1 => (Res.opt (x.truth s1) s1).bind fun b s2 => .ok (.bl (!b)) s2
def mIte (mc ma mb : Env → Sto → Res D) (en : Env) (s : Sto) : Res D := (mc en s).bind fun x s1 => (Res.opt (x.truth s1) s1).bind fun k s2 => if k then ma en s2 else mb en s2
def mAnd (ma mb : Env → Sto → Res D) (en : Env) (s : Sto) : Res D := (ma en s).bind fun x s1 => (Res.opt (x.truth s1) s1).bind fun k s2 => if k then mb en s2 else .ok x s2
def mOr (ma mb : Env → Sto → Res D) (en : Env) (s : Sto) : Res D := (ma en s).bind fun x s1 => (Res.opt (x.truth s1) s1).bind fun k s2 => if k then .ok x s2 else mb en s2
theorem tru_not (ma : Env → Sto → Res D) (en : Env) (s : Sto) : tru (mNot ma) en s = (tru ma en s).bind fun k s2 => .ok (!k) s2 := by
  dsimp only [tru, mNot]
  cases ma en s with
  | ok x s1 =>
    simp only [Res.bind_ok]
    cases x.truth s1 <;> simp [D.truth]
  | exc c vs s1 => rfl
  | bad => rfl
theorem mIte_eq (mc ma mb : Env → Sto → Res D) (en : Env) (s : Sto) : mIte mc ma mb en s = (tru mc en s).bind fun k s2 => if k then ma en s2 else mb en s2 := by
  dsimp only [tru, mIte]
  cases mc en s <;> rfl
theorem tru_ite (mc ma mb : Env → Sto → Res D) (en : Env) (s : Sto) : tru (mIte mc ma mb) en s = (tru mc en s).bind fun k s2 => if k then tru ma en s2 else tru mb en s2 := by
  dsimp only [tru, mIte]
  cases mc en s with
  | ok x s1 =>
    simp only [Res.bind_ok]
    cases x.truth s1 with
    | none => rfl
    | some k => cases k <;> rfl
  | exc c vs s1 => rfl
  | bad => rfl
theorem tru_and (ma mb : Env → Sto → Res D) (en : Env) (s : Sto) : tru (mAnd ma mb) en s = (tru ma en s).bind fun k s2 => if k then tru mb en s2 else .ok false s2 := by
  dsimp only [tru, mAnd]
  cases ma en s with
  | ok x s1 =>
    simp only [Res.bind_ok]
    cases h : x.truth s1 with
    | none => rfl
    | some k => cases k <;> simp [h]
  | exc c vs s1 => rfl
  | bad => rfl
theorem tru_or (ma mb : Env → Sto → Res D) (en : Env) (s : Sto) : tru (mOr ma mb) en s = (tru ma en s).bind fun k s2 => if k then .ok true s2 else tru mb en s2 := by
  dsimp only [tru, mOr]
  cases ma en s with
  | ok x s1 =>
    simp only [Res.bind_ok]
    cases h : x.truth s1 with
    | none => rfl
    | some k => cases k <;> simp [h]
  | exc c vs s1 => rfl
  | bad => rfl
abbrev BEq2 : Wd → Bool → Bool → Prop := fun _ a b => a = b
theorem je_not {ma : Env → Sto → Res D} (ha : JE N X a ma) : JE N X (.UnaryOp .Not a pos) (mNot ma) := by
  refine ⟨fun E tk => (pe_notT (ha.run E tk)).imp fun σ H Q ⟨W, s, en, R, eo, p⟩ => ?_⟩
  refine ⟨W, s, en, R, eo, (Post.bind (rel := DVr N) p).imp fun v H1 ⟨W1, s1, x, l1, R1, dx, p1⟩ => ?_⟩
  cases hk : x.truth s1 with
  | none => rw [hk] at p1; exact False.elim p1
  | some k =>
    rw [hk] at p1
    exact ⟨k, truth_at X.K R1 dx hk, p1 W1 H1 _ (Wd.Le.refl _) R1 (by simp [DV])⟩
theorem jt_not {ma : Env → Sto → Res D} (ha : JT N X a (tru ma)) : JT N X (.UnaryOp .Not a pos) (tru (mNot ma)) := by
  refine ⟨fun E tk => (pt_not (ha.run E tk)).imp fun σ H Q ⟨W, s, en, R, eo, p⟩ => ?_⟩
  rw [tru_not] at p
  refine ⟨W, s, en, R, eo, (Post.bind (rel := BEq2) p).imp fun v H1 ⟨W1, s1, k, l1, R1, e, p1⟩ => ?_⟩
  subst e
  exact p1 W1 H1 _ (Wd.Le.refl _) R1 rfl
theorem je_ite {mc ma mb : Env → Sto → Res D} (hc : JT N X c (tru mc)) (ha : JE N X a ma) (hb : JE N X b mb) : JE N X (.IfExp c a b pos) (mIte mc ma mb) := by
  refine ⟨fun E tk => (pe_ifExp (hc.run E tk) (ha.run E tk) (hb.run E tk)).imp fun σ H Q ⟨W, s, en, R, eo, p⟩ => ?_⟩
  rw [mIte_eq] at p
  refine ⟨W, s, en, R, eo, (Post.bind (rel := BEq2) p).imp fun v H1 ⟨W1, s1, k, l1, R1, e, p1⟩ => ?_⟩
  subst e
  cases k with
  | true => exact ⟨W1, s1, en, R1, eo.mono l1, p1⟩
  | false => exact ⟨W1, s1, en, R1, eo.mono l1, p1⟩
/-- the text's own look at such a test -/
theorem jt_ite {mc ma mb : Env → Sto → Res D} (hc : JT N X c (tru mc)) (ha : JT N X a (tru ma)) (hb : JT N X b (tru mb)) : JT N X (.IfExp c a b pos) (tru (mIte mc ma mb)) := by
  refine ⟨fun E tk => ⟨fun pins t σ H Q I ⟨W, s, en, R, eo, p⟩ => ?_⟩⟩
  rw [tru_ite] at p
  show wpAny _ X.A (do if ← isTrue c X.env (eval c X.env) then isTrue a X.env (eval a X.env) else isTrue b X.env (eval b X.env)) _ _ t
  refine wpAny_bind (thn ((hc.run E tk).run pins t σ H _ I ⟨W, s, en, R, eo, Post.bind (rel := BEq2) p⟩) fun k t1 ⟨H1, I1, W1, s1, k', l1, R1, e, p1⟩ => ?_)
  subst e
  cases k' with
  | true => exact (ha.run E tk).run pins t1 σ H1 Q I1 ⟨W1, s1, en, R1, eo.mono l1, p1⟩
  | false => exact (hb.run E tk).run pins t1 σ H1 Q I1 ⟨W1, s1, en, R1, eo.mono l1, p1⟩

/-! ### and, or -/
structure JW (N : Names) (X : Cx) (e : Expr) (m : Env → Sto → Res Bool) : Prop where
  run : ∀ E, Takes X E → PW X e (RdT N m E)
theorem JW.jt {e : Expr} {m : Env → Sto → Res Bool} (h : JW N X e m) : JT N X e m := ⟨fun E tk => (h.run E tk).pt⟩
theorem _root_.L2.PW.imp {X : Cx} {e : Expr} {t t' : TT} (h : PW X e t) (k : ∀ σ H Q, t' σ H Q → t σ H Q) : PW X e t' := ⟨fun wh pins s σ H Q I q => h.run wh pins s σ H Q I (k σ H Q q)⟩
theorem jw_and1 {m : Env → Sto → Res Bool} (h : JT N X a m) : JW N X (.BoolOp .And [a] pos) m := ⟨fun E tk => pw_and1 (h.run E tk)⟩
theorem jw_or1 {m : Env → Sto → Res Bool} (h : JT N X a m) : JW N X (.BoolOp .Or [a] pos) m := ⟨fun E tk => pw_or1 (h.run E tk)⟩
variable {e : Expr} {rest : List Expr}
theorem jw_and {ma mb : Env → Sto → Res D} (ha : JT N X a (tru ma)) (hb : JW N X (.BoolOp .And (b :: rest) pos) (tru mb)) : JW N X (.BoolOp .And (a :: b :: rest) pos) (tru (mAnd ma mb)) := by
  refine ⟨fun E tk => (pw_and (ha.run E tk) (hb.run E tk)).imp fun σ H Q ⟨W, s, en, R, eo, p⟩ => ?_⟩
  rw [tru_and] at p
  refine ⟨W, s, en, R, eo, (Post.bind (rel := BEq2) p).imp fun v H1 ⟨W1, s1, k, l1, R1, e, p1⟩ => ?_⟩
  subst e
  cases k with
  | true => exact ⟨W1, s1, en, R1, eo.mono l1, p1⟩
  | false => exact p1 W1 H1 _ (Wd.Le.refl _) R1 rfl
theorem jw_or {ma mb : Env → Sto → Res D} (ha : JT N X a (tru ma)) (hb : JW N X (.BoolOp .Or (b :: rest) pos) (tru mb)) : JW N X (.BoolOp .Or (a :: b :: rest) pos) (tru (mOr ma mb)) := by
  refine ⟨fun E tk => (pw_or (ha.run E tk) (hb.run E tk)).imp fun σ H Q ⟨W, s, en, R, eo, p⟩ => ?_⟩
  rw [tru_or] at p
  refine ⟨W, s, en, R, eo, (Post.bind (rel := BEq2) p).imp fun v H1 ⟨W1, s1, k, l1, R1, e, p1⟩ => ?_⟩
  subst e
  cases k with
  | true => exact p1 W1 H1 _ (Wd.Le.refl _) R1 rfl
  | false => exact ⟨W1, s1, en, R1, eo.mono l1, p1⟩
theorem je_one {op} {m : Env → Sto → Res D} (h : JE N X a m) : JE N X (.BoolOp op [a] pos) m := ⟨fun E tk => pe_one (h.run E tk)⟩
theorem je_and {ma mb : Env → Sto → Res D} (ha : JE N X a ma) (hb : JE N X (.BoolOp .And (b :: rest) pos) mb) : JE N X (.BoolOp .And (a :: b :: rest) pos) (mAnd ma mb) := by
  refine ⟨fun E tk => (pe_andT (ha.run E tk) (hb.run E tk)).imp fun σ H Q ⟨W, s, en, R, eo, p⟩ => ?_⟩
  refine ⟨W, s, en, R, eo, (Post.bind (rel := DVr N) p).imp fun v H1 ⟨W1, s1, x, l1, R1, dx, p1⟩ => ?_⟩
  cases hk : x.truth s1 with
  | none => rw [hk] at p1; exact False.elim p1
  | some k =>
    rw [hk] at p1
    refine ⟨k, truth_at X.K R1 dx hk, ?_⟩
    cases k with
    | true => exact ⟨W1, s1, en, R1, eo.mono l1, p1⟩
    | false => exact p1 W1 H1 v (Wd.Le.refl _) R1 dx
theorem je_or {ma mb : Env → Sto → Res D} (ha : JE N X a ma) (hb : JE N X (.BoolOp .Or (b :: rest) pos) mb) : JE N X (.BoolOp .Or (a :: b :: rest) pos) (mOr ma mb) := by
  refine ⟨fun E tk => (pe_orT (ha.run E tk) (hb.run E tk)).imp fun σ H Q ⟨W, s, en, R, eo, p⟩ => ?_⟩
  refine ⟨W, s, en, R, eo, (Post.bind (rel := DVr N) p).imp fun v H1 ⟨W1, s1, x, l1, R1, dx, p1⟩ => ?_⟩
  cases hk : x.truth s1 with
  | none => rw [hk] at p1; exact False.elim p1
  | some k =>
    rw [hk] at p1
    refine ⟨k, truth_at X.K R1 dx hk, ?_⟩
    cases k with
    | true => exact p1 W1 H1 v (Wd.Le.refl _) R1 dx
    | false => exact ⟨W1, s1, en, R1, eo.mono l1, p1⟩

/-! ### comparisons as tests, chains -/
theorem cmp_bl {o : COp} {x y z : D} {s : Sto} (h : D.cmp o x y s = some z) : ∃ k, z = .bl k := by
  have two : ∀ {A B : Option D}, A = some z → (∀ w, A = some w → ∃ k, w = .bl k) → ∃ k, z = .bl k := fun e f => f _ e
  cases o with
  | eq => rcases eqV_cases (show D.eqV (x.res s) (y.res s) false = some z from h) with ⟨_, _, _, _, e⟩ | ⟨_, e⟩ <;> exact ⟨_, e⟩
  | ne => rcases eqV_cases (show D.eqV (x.res s) (y.res s) true = some z from h) with ⟨_, _, _, _, e⟩ | ⟨_, e⟩ <;> exact ⟨_, e⟩
  | isN => cases y <;> cases h <;> exact ⟨_, rfl⟩
  | notN => cases y <;> cases h <;> exact ⟨_, rfl⟩
  | _ => cases x <;> cases y <;> cases h <;> exact ⟨_, rfl⟩
def mOp2 (g : D → D → Sto → Option D) (ma mb : Env → Sto → Res D) (en : Env) (s : Sto) : Res D := (ma en s).bind fun x s1 => (mb en s1).bind fun y s2 => Res.opt (g x y s2) s2
theorem jt_cmp {op : CmpOp} {o : COp} {ma mb : Env → Sto → Res D} (ho : OpR X (compareOp op) (rOp2 N (D.cmp o))) (ha : JE N X a ma) (hb : JE N X b mb) (hm : behindInMarks op b = false) :
    JT N X (.Compare a [op] [b] pos) (tru (mOp2 (D.cmp o) ma mb)) := by
  refine ⟨fun E tk => (pt_cmpR ho (ha.run E tk) (hb.run E tk) hm).imp fun σ H Q ⟨W, s, en, R, eo, p⟩ => ?_⟩
  show tTest _ σ H Q
  refine rd_op2 (E := E) (ma := ma) (mb := mb) (g := D.cmp o) ⟨W, s, en, R, eo, ?_⟩
  show Post N (DVr N) (mOp2 (D.cmp o) ma mb en s) W _ _
  have bl : ∀ x s2, mOp2 (D.cmp o) ma mb en s = .ok x s2 → ∃ k, x = .bl k := by
    intro x s2 e
    unfold mOp2 at e
    cases h1 : ma en s with
    | ok y s3 =>
      rw [h1, Res.bind_ok] at e
      cases h2 : mb en s3 with
      | ok z s4 =>
        rw [h2, Res.bind_ok] at e
        cases h3 : D.cmp o y z s4 with
        | none => rw [h3] at e; cases e
        | some w =>
          rw [h3] at e
          cases e
          exact cmp_bl h3
      | exc c vs s4 => rw [h2] at e; cases e
      | bad => rw [h2] at e; cases e
    | exc c vs s4 => rw [h1] at e; cases e
    | bad => rw [h1] at e; cases e
  unfold tru at p
  cases hm2 : mOp2 (D.cmp o) ma mb en s with
  | ok x s2 =>
    obtain ⟨k, rfl⟩ := bl _ _ hm2
    rw [hm2] at p
    intro W' H' v l R' e
    cases e
    exact ⟨k, rfl, p W' H' k l R' rfl⟩
  | exc c vs s2 => rw [hm2] at p; exact p
  | bad => rw [hm2] at p; exact p
/-- a op1 b op2 c -/
def mChain (g g' : D → D → Sto → Option D) (ma mb mc : Env → Sto → Res D) (en : Env) (s : Sto) : Res D := (ma en s).bind fun x s1 => (mb en s1).bind fun y s2 => match g x y s2 with
  | some (.bl true) => (mc en s2).bind fun w s3 => Res.opt (g' y w s3) s3
  | some (.bl false) => .ok (.bl false) s2
  | _ => .bad
theorem rd_chain {g g' : D → D → Sto → Option D} {ma mb mc : Env → Sto → Res D} {E : WX} {Q : VK} {σ : L2.St} (h : Rd N (mChain g g' ma mb mc) E σ H Q) :
    tChain (rOp2 N g) (rOp2 N g') (Rd N ma E) (Rd N mb E) (Rd N mc E) σ H Q := by
  obtain ⟨W, s, en, R, eo, p⟩ := h
  refine ⟨W, s, en, R, eo, (Post.bind (rel := DVr N) p).imp fun v H1 ⟨W1, s1, x, l1, R1, dx, p1⟩ => ?_⟩
  refine ⟨W1, s1, en, R1, eo.mono l1, (Post.bind (rel := DVr N) p1).imp fun u H2 ⟨W2, s2, y, l2, R2, dy, p2⟩ => ?_⟩
  cases hg : g x y s2 with
  | none => simp only [hg] at p2; exact False.elim p2
  | some z =>
    refine ⟨W2, s2, x, y, z, R2, dx.mono l2, dy, hg, fun W3 H3 zv l3 R3 dz => ?_⟩
    cases z with
    | bl k =>
      cases dz
      refine ⟨k, rfl, ?_⟩
      cases k with
      | true =>
        simp only [hg] at p2
        refine ⟨W3, s2, en, R3, ((eo.mono l1).mono l2).mono l3, (Post.bind (rel := DVr N) (p2.mono l3)).imp fun w' H4 ⟨W4, s4, w, l4, R4, dw, p4⟩ => ?_⟩
        obtain ⟨z2, hz2, q⟩ := p4.opt
        exact ⟨W4, s4, y, w, z2, R4, (dy.mono l3).mono l4, dw, hz2, q⟩
      | false =>
        simp only [hg] at p2
        exact p2 W3 H3 _ l3 R3 (by simp [DV])
    | _ => simp only [hg] at p2; exact False.elim p2
theorem je_chain {op op' : CmpOp} {g g' : D → D → Sto → Option D} {ma mb mc : Env → Sto → Res D} (ho : OpR X (compareOp op) (rOp2 N g)) (ho' : OpR X (compareOp op') (rOp2 N g')) (ha : JE N X a ma) (hb : JE N X b mb) (hc : JE N X c mc)
    (hm : lastMarks [op, op'] [b, c] = false) : JE N X (.Compare a [op, op'] [b, c] pos) (mChain g g' ma mb mc) :=
  ⟨fun E tk => (pe_chain ho ho' (ha.run E tk) (hb.run E tk) (hc.run E tk) hm).imp fun σ H Q h => rd_chain h⟩
theorem jt_chain {op op' : CmpOp} {o o' : COp} {ma mb mc : Env → Sto → Res D} (ho : OpR X (compareOp op) (rOp2 N (D.cmp o))) (ho' : OpR X (compareOp op') (rOp2 N (D.cmp o'))) (ha : JE N X a ma) (hb : JE N X b mb) (hc : JE N X c mc)
    (hm : lastMarks [op, op'] [b, c] = false) : JT N X (.Compare a [op, op'] [b, c] pos) (tru (mChain (D.cmp o) (D.cmp o') ma mb mc)) := by
  refine ⟨fun E tk => (pt_chain ho ho' (ha.run E tk) (hb.run E tk) (hc.run E tk) hm).imp fun σ H Q ⟨W, s, en, R, eo, p⟩ => ?_⟩
  show tTest _ σ H Q
  refine rd_chain (E := E) ⟨W, s, en, R, eo, ?_⟩
  have bl : ∀ x s2, mChain (D.cmp o) (D.cmp o') ma mb mc en s = .ok x s2 → ∃ k, x = .bl k := by
    intro x s2 e
    unfold mChain at e
    cases h1 : ma en s with
    | ok y s3 =>
      rw [h1, Res.bind_ok] at e
      cases h2 : mb en s3 with
      | ok z s4 =>
        rw [h2, Res.bind_ok] at e
        cases h3 : D.cmp o y z s4 with
        | none => simp only [h3] at e; cases e
        | some w =>
          obtain ⟨k, rfl⟩ := cmp_bl h3
          cases k with
          | false => simp only [h3] at e; cases e; exact ⟨_, rfl⟩
          | true =>
            simp only [h3] at e
            cases h4 : mc en s4 with
            | ok w s5 =>
              rw [h4, Res.bind_ok] at e
              cases h5 : D.cmp o' z w s5 with
              | none => rw [h5] at e; cases e
              | some w2 => rw [h5] at e; cases e; exact cmp_bl h5
            | exc c vs s5 => rw [h4] at e; cases e
            | bad => rw [h4] at e; cases e
      | exc c vs s4 => rw [h2] at e; cases e
      | bad => rw [h2] at e; cases e
    | exc c vs s4 => rw [h1] at e; cases e
    | bad => rw [h1] at e; cases e
  unfold tru at p
  cases hm2 : mChain (D.cmp o) (D.cmp o') ma mb mc en s with
  | ok x s2 =>
    obtain ⟨k, rfl⟩ := bl _ _ hm2
    rw [hm2] at p
    intro W' H' v l R' e
    cases e
    exact ⟨k, rfl, p W' H' k l R' rfl⟩
  | exc c vs s2 => rw [hm2] at p; exact p
  | bad => rw [hm2] at p; exact p
end
end Zd

/-! Zd: arguments, displays, places, slices, built-ins. -/
namespace Zd
open PySem PySem.Spec PyProof.Rows L2
section
variable {N : Names} {X : Cx} {W : Wd} {s : Sto} {H : Hp} {a b c e : Expr} {es : List Expr} {pos : Pos} {M : Sem}
def mCons (m : Env → Sto → Res D) (ms : Env → Sto → Res (List D)) (en : Env) (s : Sto) : Res (List D) := (m en s).bind fun x s1 => (ms en s1).bind fun xs s2 => .ok (x :: xs) s2
theorem ja_nil : JA N X [] (fun _ s => .ok [] s) := ⟨fun E tk => pa_nil.imp fun σ H Q ⟨W, s, en, R, eo, p⟩ => p W H [] (Wd.Le.refl _) R .nil⟩
theorem ja_cons {m : Env → Sto → Res D} {ms : Env → Sto → Res (List D)} (ha : JE N X e m) (hr : JA N X es ms) (hs : starEach (e :: es) X.env = (false, eval e X.env) :: starEach es X.env) : JA N X (e :: es) (mCons m ms) := by
  refine ⟨fun E tk => (pa_cons (ha.run E tk) (hr.run E tk) hs).imp fun σ H Q ⟨W, s, en, R, eo, p⟩ => ?_⟩
  refine ⟨W, s, en, R, eo, (Post.bind (rel := DVr N) p).imp fun v H1 ⟨W1, s1, x, l1, R1, dx, p1⟩ => ?_⟩
  refine ⟨W1, s1, en, R1, eo.mono l1, (Post.bind (rel := DVsr N) p1).imp fun vs H2 ⟨W2, s2, xs, l2, R2, dxs, p2⟩ => ?_⟩
  exact p2 W2 H2 _ (Wd.Le.refl _) R2 (.cons (dx.mono l2) dxs)
/-! ### displays -/
def mTup (ms : Env → Sto → Res (List D)) (en : Env) (s : Sto) : Res D := (ms en s).bind fun ds s1 => if ds.length ≤ lim then .ok (.tup ds) s1 else .bad
def mLst (ms : Env → Sto → Res (List D)) (en : Env) (s : Sto) : Res D := (ms en s).bind fun ds s1 => if ds.length ≤ lim then .ok (.lst ds) s1 else .bad
theorem je_tup {k : Nat} {ms : Env → Sto → Res (List D)} (h : JA N X es ms) : JE N X (.Tuple es k pos) (mTup ms) := by
  refine ⟨fun E tk => (pe_tup (h.run E tk)).imp fun σ H Q ⟨W, s, en, R, eo, p⟩ => ?_⟩
  refine ⟨W, s, en, R, eo, (Post.bind (rel := DVsr N) p).imp fun vs H1 ⟨W1, s1, ds, l1, R1, g, p1⟩ => ?_⟩
  by_cases hl : ds.length ≤ lim
  · rw [if_pos hl] at p1
    exact ⟨lim_le (by rw [← g.length]; exact hl), fun q hq => Out.tup p1 R1 g hq⟩
  · rw [if_neg hl] at p1; exact p1.elim
theorem newV_lst {ds : List D} {vs : List V} {p : Addr} (R : RH N.toNm W s H) (g : DVs N.toNm W ds vs) (hp : H p = none) : NewV N W (upd H p (.lst vs)) (.lst ds) (.ref p) := by
  obtain ⟨f1, f2⟩ := R.fresh hp
  exact ⟨p, .lst vs, .lst ds, rfl, rfl, upd_same, f1, f2, vs, rfl, g⟩
theorem jn_lst {ms : Env → Sto → Res (List D)} (h : JA N X es ms) : JN N X (.List es pos) (mLst ms) := by
  refine ⟨fun E tk => (pe_lst (h.run E tk)).imp fun σ H Q ⟨W, s, en, R, eo, p⟩ => ?_⟩
  refine ⟨W, s, en, R, eo, (PostN.bind (rel := DVsr N) p).imp fun vs H1 ⟨W1, s1, ds, l1, R1, g, p1⟩ => ?_⟩
  by_cases hl : ds.length ≤ lim
  · rw [if_pos hl] at p1
    exact ⟨lim_le (by rw [← g.length]; exact hl), fun q hq => p1 W1 _ _ (Wd.Le.refl _) (R1.upd hq) (newV_lst R1 g hq)⟩
  · rw [if_neg hl] at p1; exact p1.elim
/-! ### places -/
theorem at_ix {n : Nat} {i : Int} : at? n i = ixN n i := rfl
theorem ix_any (hK : N.K = X.K) : IxR X (rOp2 N D.idx) := by
  intro value slice pins t σ H x y v u Q I rx ry h hs
  obtain ⟨W, s, a, i, z, R, da, di, hz, q⟩ := h
  cases i with
  | int k =>
    cases di
    have seq : ((a.seq? s).bind fun ds => (at? ds.length k).bind fun j => ds[j]?) = some z → wpAny (model X.prog X.w) X.A (subscriptTail value slice v u) (EP X pins σ Q) X.xe t := by
      intro e
      cases h1 : a.seq? s with
      | none => rw [h1] at e; cases e
      | some ds =>
        rw [h1] at e
        obtain ⟨p, vs, rfl, hq, g⟩ := seq_at X.K hK R da h1
        have e : ((at? ds.length k).bind fun j => ds[j]?) = some z := e
        cases h2 : at? ds.length k with
        | none => rw [h2] at e; cases e
        | some j =>
          rw [h2] at e
          obtain ⟨w, hw, dw⟩ := g.get (show ds[j]? = some z from e)
          have ha : atI vs k = some w := by
            unfold atI
            rw [← g.length, ← at_ix, h2]
            exact hw
          rcases hq with hq | hq
          · exact ix_list value slice pins t σ H _ _ v u Q I rx ry ⟨p, vs, k, w, rfl, rfl, hq, ha, Out.val q R dw⟩ hs
          · exact ix_tup value slice pins t σ H _ _ v u Q I rx ry ⟨p, vs, k, w, rfl, rfl, hq, ha, Out.val q R dw⟩ hs
    cases a with
    | str x =>
      have hz : (if x.length ≤ lim then ((at? x.length k).bind fun j => x.cps.toList[j]?).map fun c => D.str ⟨#[c]⟩ else none) = some z := hz
      by_cases hl : x.length ≤ lim
      · rw [if_pos hl] at hz
        cases h1 : (at? x.length k).bind fun j => x.cps.toList[j]? with
        | none => rw [h1] at hz; cases hz
        | some c =>
          rw [h1] at hz
          cases hz
          cases da
          refine ix_str value slice pins t σ H _ _ v u Q I rx ry ⟨x, k, c, rfl, rfl, lim_le hl, ?_, Out.val q R (by simp [DV])⟩ hs
          unfold atI
          rw [show x.cps.toList.length = x.length from Array.length_toList]
          exact h1
      · rw [if_neg hl] at hz; cases hz
    | _ => exact seq hz
  | _ => cases hz
theorem je_idx {ma mb : Env → Sto → Res D} (ha : JE N X a ma) (hb : JE N X b mb) (hs : PlainIx b) (hK : N.K = X.K) : JE N X (.Subscript a b pos) (mOp2 D.idx ma mb) :=
  ⟨fun E tk => (pe_ix (ix_any hK) (ha.run E tk) (hb.run E tk) hs).imp fun σ H Q h => rd_op2 h⟩
/-! ### slices -/
structure JO (N : Names) (X : Cx) (o : Option Expr) (m : Env → Sto → Res (Option Int)) : Prop where
  run : ∀ E, Takes X E → PO X o (fun σ H Q => ∃ W s en, RH N.toNm W s H ∧ EnvOk N W en σ ∧ Post N (fun _ (a b : Option Int) => a = b) (m en s) W Q (fun c d H => E c d σ H))
theorem _root_.L2.PO.imp {X : Cx} {o : Option Expr} {t t' : TO} (h : PO X o t) (k : ∀ σ H Q, t' σ H Q → t σ H Q) : PO X o t' := ⟨fun pins s σ H Q I q => h.run pins s σ H Q I (k σ H Q q)⟩
theorem jo_none : JO N X none (fun _ s => .ok none s) := ⟨fun E tk => po_none.imp fun σ H Q ⟨W, s, en, R, eo, p⟩ => p W H none (Wd.Le.refl _) R rfl⟩
def mPart (m : Env → Sto → Res D) (en : Env) (s : Sto) : Res (Option Int) := (m en s).bind fun x s1 => Res.opt (x.int?.map some) s1
theorem jo_some {m : Env → Sto → Res D} (h : JE N X e m) : JO N X (some e) (mPart m) := by
  refine ⟨fun E tk => (po_some (h.run E tk)).imp fun σ H Q ⟨W, s, en, R, eo, p⟩ => ?_⟩
  refine ⟨W, s, en, R, eo, (Post.bind (rel := DVr N) p).imp fun v H1 ⟨W1, s1, x, l1, R1, dx, p1⟩ => ?_⟩
  obtain ⟨i, hi, q⟩ := p1.opt
  cases x with
  | int k => cases hi; cases dx; exact ⟨k, rfl, q W1 H1 _ (Wd.Le.refl _) R1 rfl⟩
  | _ => cases hi
theorem cut_vs {ds : List D} {vs : List V} (g : DVs N.toNm W ds vs) (lo hi : Option Int) : DVs N.toNm W (cutL ds lo hi) (cutV vs lo hi) := by
  unfold cutL cutV
  have e1 : cutAt = HT.sIx := by
    funext n d o
    cases o <;> rfl
  rw [e1, g.length]
  exact (g.drop _).take _
def rSlc (N : Names) : V → Option Int → Option Int → Hp → VK → Prop := fun x lo hi H Q => ∃ W s a z, RH N.toNm W s H ∧ DV N.toNm W a x ∧ D.slc a lo hi s = some z ∧ Out N W s z Q
theorem sl_any : SlR X (rSlc N) := by
  intro pins t σ H x v vl vu lo hi sl Q I rx hs pl pu h
  obtain ⟨W, s, a, z, R, da, hz, q⟩ := h
  have lists : (a.lst? s).map (fun ds => D.lst (cutL ds lo hi)) = some z → ∃ T id, typeLookup (.type T) "__getitem__" = pure (some (.builtin id)) ∧ t.TypeIs v T ∧ wpAny (model X.prog X.w) X.A (getItem v (.ref sl)) (EP X pins σ Q) X.xe t := fun e => by
    cases h1 : a.lst? s with
    | none => rw [h1] at e; cases e
    | some ds =>
      rw [h1] at e
      cases e
      obtain ⟨p, vs, rfl, hp, g⟩ := lst_at R da h1
      exact sl_list (X := X) pins t σ H _ v vl vu lo hi sl Q I rx hs pl pu ⟨p, vs, rfl, SqL.of hp, fun p2 h2 => Out.lst q R (cut_vs g lo hi) h2⟩
  cases a with
  | str x =>
    have hz : (if x.length ≤ lim then some (D.str ⟨(cutL x.cps.toList lo hi).toArray⟩) else none) = some z := hz
    by_cases hl : x.length ≤ lim
    · rw [if_pos hl] at hz
      cases hz; cases da
      refine sl_str pins t σ H _ v vl vu lo hi sl Q I rx hs pl pu ⟨x, rfl, lim_le hl, ?_⟩
      have e1 : cutAt = HT.sIx := by
        funext n d o
        cases o <;> rfl
      have e2 : cutS x lo hi = ⟨(cutL x.cps.toList lo hi).toArray⟩ := by
        unfold cutS cutL
        rw [e1, show x.cps.toList.length = x.length from Array.length_toList]
      rw [e2]
      exact Out.val q R (by simp [DV])
    · rw [if_neg hl] at hz; cases hz
  | tup ds =>
    cases hz
    obtain ⟨p, vs, rfl, f, g⟩ := da
    refine sl_tupA pins t σ H _ v vl vu lo hi sl Q I rx hs pl pu ⟨p, vs, rfl, SqT.of (R.fz _ _ f), fun hw => ?_, fun _ p2 h2 => Out.tup q R (cut_vs g lo hi) h2⟩
    have e : cutL ds lo hi = ds := by
      unfold cutL
      have e1 : cutAt = HT.sIx := by
        funext n d o
        cases o <;> rfl
      rw [e1, g.length, hw.1, hw.2]
      rw [← g.length]
      simp
    rw [e] at q
    exact Out.val q R ⟨p, vs, rfl, f, g⟩
  | _ => exact lists hz
def mSlc (m : Env → Sto → Res D) (ml mh : Env → Sto → Res (Option Int)) (en : Env) (s : Sto) : Res D := (m en s).bind fun x s1 => (ml en s1).bind fun l s2 => (mh en s2).bind fun h s3 => Res.opt (D.slc x l h s3) s3
theorem je_slc {lo hi : Option Expr} {p2 : Pos} {m : Env → Sto → Res D} {ml mh : Env → Sto → Res (Option Int)} (he : JE N X e m) (hl : JO N X lo ml) (hh : JO N X hi mh) : JE N X (.Subscript e (.Slice lo hi none p2) pos) (mSlc m ml mh) := by
  refine ⟨fun E tk => (pe_slice (sl_any (N := N)) (he.run E tk) (hl.run E tk) (hh.run E tk)).imp fun σ H Q ⟨W, s, en, R, eo, p⟩ => ?_⟩
  refine ⟨W, s, en, R, eo, (Post.bind (rel := DVr N) p).imp fun v H1 ⟨W1, s1, x, l1, R1, dx, p1⟩ => ?_⟩
  refine ⟨W1, s1, en, R1, eo.mono l1, (Post.bind (rel := fun _ (a b : Option Int) => a = b) p1).imp fun i H2 ⟨W2, s2, i', l2, R2, e2, p2⟩ => ?_⟩
  subst e2
  refine ⟨W2, s2, en, R2, (eo.mono l1).mono l2, (Post.bind (rel := fun _ (a b : Option Int) => a = b) p2).imp fun j H3 ⟨W3, s3, j', l3, R3, e3, p3⟩ => ?_⟩
  subst e3
  obtain ⟨z, hz, q⟩ := p3.opt
  exact ⟨W3, s3, x, z, R3, (dx.mono l2).mono l3, hz, q⟩
/-! ### built-ins -/
def rCall (N : Names) (g : List D → Sto → Option D) : List V → Hp → VK → Prop := fun vs H Q => ∃ W s ds z, RH N.toNm W s H ∧ DVs N.toNm W ds vs ∧ g ds s = some z ∧ Out N W s z Q
def mCall (g : List D → Sto → Option D) (ms : Env → Sto → Res (List D)) (en : Env) (s : Sto) : Res D := (ms en s).bind fun ds s1 => Res.opt (g ds s1) s1
theorem rd_call {g : List D → Sto → Option D} {ms : Env → Sto → Res (List D)} {E : WX} {Q : VK} {σ : L2.St} (h : Rd N (mCall g ms) E σ H Q) : tCB (rCall N g) (RdA N ms E) σ H Q := by
  obtain ⟨W, s, en, R, eo, p⟩ := h
  refine ⟨W, s, en, R, eo, (Post.bind (rel := DVsr N) p).imp fun vs H1 ⟨W1, s1, ds, l1, R1, g1, p1⟩ => ?_⟩
  obtain ⟨z, hz, q⟩ := p1.opt
  exact ⟨W1, s1, ds, z, R1, g1, hz, q⟩
theorem je_callB {g : List D → Sto → Option D} {ms : Env → Sto → Res (List D)} {id : String} {x : Str} {p : Pos} (hc : CallR X (.builtin id) (rCall N g)) (hg : Gl X x) (hm : X.mg x = none) (hv : bootBuiltins x = some (.builtin id)) (ha : JA N X (e :: es) ms)
    (hn : x ≠ "__name__") (hdb : (x == ("__debug__" : Str)) = false) (he : starEach (e :: es) X.env = (false, eval e X.env) :: starEach es X.env) (hpl : (backTo pos (starEach es X.env)).any (·.1) = false) : JE N X (.Call (.Name x p) (e :: es) [] pos) (mCall g ms) :=
  ⟨fun E tk => (pe_callB hc hg hm hv (ha.run E tk) hn hdb he hpl).imp fun σ H Q h => rd_call h⟩
theorem je_callTy {g : List D → Sto → Option D} {ms : Env → Sto → Res (List D)} {T : String} {x : Str} {p : Pos} (hc : CallR X (.type T) (rCall N g)) (hg : Gl X x) (hm : X.mg x = none) (hv : bootBuiltins x = some (.type T)) (ha : JA N X (e :: es) ms)
    (hn : x ≠ "__name__") (hdb : (x == ("__debug__" : Str)) = false) (he : starEach (e :: es) X.env = (false, eval e X.env) :: starEach es X.env) (hpl : (backTo pos (starEach es X.env)).any (·.1) = false) : JE N X (.Call (.Name x p) (e :: es) [] pos) (mCall g ms) :=
  ⟨fun E tk => (pe_callTy hc hg hm hv (ha.run E tk) hn hdb he hpl).imp fun σ H Q h => rd_call h⟩
theorem one_of {ds : List D} {f : D → Option D} {z : D} (h : (match ds with
    | [x] => f x
    | _ => none) = some z) : ∃ x, ds = [x] ∧ f x = some z := by
  match ds, h with
  | [x], h => exact ⟨x, rfl, h⟩
theorem DVs.one {d : D} {vs : List V} (h : DVs N.toNm W [d] vs) : ∃ v, vs = [v] ∧ DV N.toNm W d v := by
  obtain ⟨x, r, rfl, f, g⟩ := h
  cases (show r = [] from g)
  exact ⟨x, rfl, f⟩
theorem DVs.two {d d2 : D} {vs : List V} (h : DVs N.toNm W [d, d2] vs) : ∃ v u, vs = [v, u] ∧ DV N.toNm W d v ∧ DV N.toNm W d2 u := by
  obtain ⟨x, r, rfl, f, g⟩ := h
  obtain ⟨u, rfl, g2⟩ := DVs.one g
  exact ⟨x, u, rfl, f, g2⟩
theorem cb_len (hK : N.K = X.K) : CallR X (.builtin "len") (rCall N (D.blt .len)) := by
  intro pins t σ H vs us Q I r h
  obtain ⟨W, s, ds, z, R, g, hz, q⟩ := h
  match ds, hz with
  | [x], hz =>
    obtain ⟨v, rfl, dx⟩ := g.one
    have hz : (x.len s).map (fun n => D.int n) = some z := hz
    have seq : (x.seq? s).map List.length = x.len s → wpAny (model X.prog X.w) X.A (call (.builtin "len") us) (EP X pins σ Q) X.xe t := fun e => by
      rw [← e] at hz
      cases h1 : x.seq? s with
      | none => rw [h1] at hz; cases hz
      | some es =>
        rw [h1] at hz
        cases hz
        obtain ⟨p, ws, rfl, hq, g2⟩ := seq_at X.K hK R dx h1
        refine call_len_seq pins t σ H _ us Q I r ⟨p, ws, rfl, hq, ?_⟩
        rw [← g2.length]
        exact Out.val q R (by simp [DV])
    cases x with
    | str y =>
      simp only [D.len] at hz
      by_cases hl : y.length ≤ lim
      · rw [if_pos hl] at hz
        cases hz; cases dx
        exact call_len_str pins t σ H _ us Q I r ⟨y, rfl, lim_le hl, Out.val q R (by simp [DV])⟩
      · rw [if_neg hl] at hz; cases hz
    | _ => exact seq rfl
theorem int1 {ds : List D} {f : Int → D} {z : D} (h : (match ds with
    | [.int i] => some (f i)
    | _ => none) = some z) : ∃ i, ds = [.int i] ∧ z = f i := by
  match ds, h with
  | [.int i], h => cases h; exact ⟨i, rfl, rfl⟩
theorem cb_abs : CallR X (.builtin "abs") (rCall N (D.blt .abs)) := by
  intro pins t σ H vs us Q I r h
  obtain ⟨W, s, ds, z, R, g, hz, q⟩ := h
  match ds, hz with
  | [.int i], hz =>
    cases hz
    obtain ⟨v, rfl, dx⟩ := g.one
    cases dx
    exact call_abs pins t σ H _ us Q I r ⟨i, rfl, Out.val q R (by simp [DV])⟩
theorem cb_max (hc : X.calm = true) : CallR X (.builtin "max") (rCall N (D.blt .max)) := by
  intro pins t σ H vs us Q I r h
  obtain ⟨W, s, ds, z, R, g, hz, q⟩ := h
  match ds, hz with
  | [.int i, .int j], hz =>
    cases hz
    obtain ⟨v, u, rfl, dx, dy⟩ := g.two
    cases dx; cases dy
    exact call_max2 hc pins t σ H _ us Q I r ⟨i, j, rfl, Out.val q R (by simp [DV, maxI])⟩
theorem cb_min (hc : X.calm = true) : CallR X (.builtin "min") (rCall N (D.blt .min)) := by
  intro pins t σ H vs us Q I r h
  obtain ⟨W, s, ds, z, R, g, hz, q⟩ := h
  match ds, hz with
  | [.int i, .int j], hz =>
    cases hz
    obtain ⟨v, u, rfl, dx, dy⟩ := g.two
    cases dx; cases dy
    exact call_min2 hc pins t σ H _ us Q I r ⟨i, j, rfl, Out.val q R (by simp [DV, minI])⟩
theorem ct_int : CallR X (.type "int") (rCall N (D.blt .int)) := by
  intro pins t σ H vs us Q I r h
  obtain ⟨W, s, ds, z, R, g, hz, q⟩ := h
  match ds, hz with
  | [.int i], hz =>
    cases hz
    obtain ⟨v, rfl, dx⟩ := g.one
    cases dx
    exact call_int1 pins t σ H _ us Q I r (.inl ⟨i, rfl, Out.val q R (by simp [DV])⟩)
  | [.bl k], hz =>
    cases hz
    obtain ⟨v, rfl, dx⟩ := g.one
    cases dx
    exact call_int1 pins t σ H _ us Q I r (.inr ⟨k, rfl, Out.val q R (by simp [DV])⟩)
theorem bools_vs : ∀ {ds : List D} {bs : List Bool} {vs : List V}, D.bools ds = some bs → DVs N.toNm W ds vs → vs = bs.map V.bl
  | [], _, _, e, g => by cases e; exact g
  | d :: ds, _, _, e, g => by
    obtain ⟨x, r, rfl, f, g⟩ := g
    cases d with
    | bl b =>
      have e : (D.bools ds).map (b :: ·) = some _ := e
      cases h : D.bools ds with
      | none => rw [h] at e; cases e
      | some r' =>
        rw [h] at e
        cases e
        cases f
        rw [bools_vs h g]
        rfl
    | _ => cases e
theorem cb_all (hc : X.calm = true) : CallR X (.builtin "all") (rCall N (D.blt .all)) := by
  intro pins t σ H vs us Q I r h
  obtain ⟨W, s, ds, z, R, g, hz, q⟩ := h
  match ds, hz with
  | [x], hz =>
    obtain ⟨v, rfl, dx⟩ := g.one
    have hz : ((x.lst? s).bind D.bools).map (fun bs => D.bl (bs.all id)) = some z := hz
    cases h1 : x.lst? s with
    | none => rw [h1] at hz; cases hz
    | some es =>
      rw [h1] at hz
      have hz : (D.bools es).map (fun bs => D.bl (bs.all id)) = some z := hz
      cases h2 : D.bools es with
      | none => rw [h2] at hz; cases hz
      | some bs =>
        rw [h2] at hz
        cases hz
        obtain ⟨p, ws, rfl, hp, g2⟩ := lst_at R dx h1
        rw [bools_vs h2 g2] at hp
        exact cr_all hc pins t σ H _ us Q I r ⟨p, bs, rfl, SqL.of hp, Out.val q R (by simp [DV])⟩
theorem cb_any (hc : X.calm = true) : CallR X (.builtin "any") (rCall N (D.blt .any)) := by
  intro pins t σ H vs us Q I r h
  obtain ⟨W, s, ds, z, R, g, hz, q⟩ := h
  match ds, hz with
  | [x], hz =>
    obtain ⟨v, rfl, dx⟩ := g.one
    have hz : ((x.lst? s).bind D.bools).map (fun bs => D.bl (bs.any id)) = some z := hz
    cases h1 : x.lst? s with
    | none => rw [h1] at hz; cases hz
    | some es =>
      rw [h1] at hz
      have hz : (D.bools es).map (fun bs => D.bl (bs.any id)) = some z := hz
      cases h2 : D.bools es with
      | none => rw [h2] at hz; cases hz
      | some bs =>
        rw [h2] at hz
        cases hz
        obtain ⟨p, ws, rfl, hp, g2⟩ := lst_at R dx h1
        rw [bools_vs h2 g2] at hp
        exact cr_any hc pins t σ H _ us Q I r ⟨p, bs, rfl, SqL.of hp, Out.val q R (by simp [DV])⟩
end
end Zd

/-! Zd: repr, isinstance, methods of built-in types, what a for walks, comprehensions. -/
namespace Zd
open PySem PySem.Spec PyProof.Rows L2
section
variable {N : Names} {X : Cx} {W : Wd} {s : Sto} {H : Hp} {a b c e : Expr} {es : List Expr} {pos : Pos} {M : Sem}

/-! ### repr -/
mutual
theorem show_ok : ∀ {d : D}, d.showOk = true → d.py.showable = true ∧ d.py.hasDict = false ∧ d.py.shown = d.show ∧ d.py.depth = d.depth
  | .non, _ => by simp [D.py, PyData.showable, PyData.hasDict, PyData.shown, D.show, PyData.depth, D.depth]
  | .bl b, _ => by simp [D.py, PyData.showable, PyData.hasDict, PyData.shown, D.show, PyData.depth, D.depth]
  | .int i, h => by
    simp only [D.showOk] at h
    simp [D.py, PyData.showable, PyData.hasDict, PyData.shown, D.show, PyData.depth, D.depth, of_decide_eq_true h]
  | .str x, _ => by simp [D.py, PyData.showable, PyData.hasDict, PyData.shown, D.show, PyData.depth, D.depth]
  | .tup ds, h => by
    simp only [D.showOk] at h
    obtain ⟨h1, h2, h3, h4⟩ := shows_ok h
    simp [D.py, PyData.showable, PyData.hasDict, PyData.shown, D.show, PyData.depth, D.depth, h1, h2, h3, h4, Nat.add_comm]
  | .lst ds, h => by
    simp only [D.showOk] at h
    obtain ⟨h1, h2, h3, h4⟩ := shows_ok h
    simp [D.py, PyData.showable, PyData.hasDict, PyData.shown, D.show, PyData.depth, D.depth, h1, h2, h3, h4, Nat.add_comm]
  | .dct _ _, h => by simp [D.showOk] at h
  | .ins _ _ _, h => by simp [D.showOk] at h
  | .loc _, h => by simp [D.showOk] at h
  | .lck _, h => by simp [D.showOk] at h
theorem shows_ok : ∀ {ds : List D}, D.showOks ds = true → PyData.showableAll (D.pys ds) = true ∧ PyData.hasDictAll (D.pys ds) = false ∧ PyData.shownAll (D.pys ds) = D.shows ds ∧ PyData.depthAll (D.pys ds) = D.depths ds
  | [], _ => by simp [D.pys, PyData.showableAll, PyData.hasDictAll, PyData.shownAll, D.shows, PyData.depthAll, D.depths]
  | d :: ds, h => by
    simp only [D.showOks, Bool.and_eq_true] at h
    obtain ⟨a1, a2, a3, a4⟩ := show_ok h.1
    obtain ⟨b1, b2, b3, b4⟩ := shows_ok h.2
    simp [D.pys, PyData.showableAll, PyData.hasDictAll, PyData.shownAll, D.shows, PyData.depthAll, D.depths, a1, a2, a3, a4, b1, b2, b3, b4]
    try rfl
end
mutual
theorem reads_of {P : Program} {w : World} {h : Heap} (R : RH N.toNm W s H) (hok : HOk P w H h) : ∀ {d : D} {v : V} {u : Value}, DV N.toNm W d v → RelV v u → d.showOk = true → ∃ as, Reads h u d.py as
  | .non, _, _, dv, r, _ => by cases dv; cases r; exact ⟨_, .none⟩
  | .bl b, _, _, dv, r, _ => by cases dv; cases r; exact ⟨_, .bool b⟩
  | .int i, _, _, dv, r, _ => by cases dv; obtain ⟨t, rfl⟩ := r; exact ⟨_, .int i t⟩
  | .str x, _, _, dv, r, _ => by cases dv; obtain ⟨t, rfl⟩ := r; exact ⟨_, .str x t⟩
  | .tup ds, _, _, dv, r, k => by
    obtain ⟨p, vs, rfl, f, g⟩ := dv
    cases r
    obtain ⟨_, its, rv, o, h1, h2, n, h3⟩ := (show ObjOk P w H h p (.tup vs) from hok p _ (R.fz _ _ f))
    simp only [D.showOk] at k
    obtain ⟨as, q⟩ := readss_of R hok g rv k
    exact ⟨_, .tuple h1 h2 h3 (by simpa using q)⟩
  | .lst ds, _, _, dv, r, k => by
    obtain ⟨p, vs, rfl, f, g⟩ := dv
    cases r
    obtain ⟨_, its, n, rv, h1⟩ := (show ObjOk P w H h p (.lst vs) from hok p _ (R.fz _ _ f))
    simp only [D.showOk] at k
    obtain ⟨as, q⟩ := readss_of R hok g rv k
    exact ⟨_, .list h1 rfl rfl (by simpa using q)⟩
  | .dct _ _, _, _, _, _, h => by simp [D.showOk] at h
  | .ins _ _ _, _, _, _, _, h => by simp [D.showOk] at h
  | .loc _, _, _, _, _, h => by simp [D.showOk] at h
  | .lck _, _, _, _, _, h => by simp [D.showOk] at h
theorem readss_of {P : Program} {w : World} {h : Heap} (R : RH N.toNm W s H) (hok : HOk P w H h) : ∀ {ds : List D} {vs : List V} {us : List Value}, DVs N.toNm W ds vs → Vals vs us → D.showOks ds = true → ∃ as, ReadsAll h us (D.pys ds) as
  | [], _, _, g, r, _ => by cases (show _ = [] from g); cases r; exact ⟨_, .nil⟩
  | d :: ds, _, _, g, r, k => by
    obtain ⟨x, vs, rfl, f, g⟩ := g
    simp only [D.showOks, Bool.and_eq_true] at k
    cases r with
    | cons r1 rs =>
      obtain ⟨as, q1⟩ := reads_of R hok f r1 k.1
      obtain ⟨bs, q2⟩ := readss_of R hok g rs k.2
      exact ⟨_, .cons q1 q2⟩
end
/-- the same through a cell -/
theorem reads_res {P : Program} {w : World} {h : Heap} (R : RH N.toNm W s H) (hok : HOk P w H h) {d : D} {v : V} {u : Value} (dv : DV N.toNm W d v) (r : RelV v u) (k : (d.res s).showOk = true) : ∃ as, Reads h u (d.res s).py as := by
  cases d with
  | loc n =>
    simp only [D.res] at k ⊢
    cases hc : s.get n with
    | none => rw [hc] at k; simp [D.showOk] at k
    | some c =>
      rw [hc] at k
      cases c with
      | lst ds =>
        simp only [D.showOk] at k
        obtain ⟨p, rfl, hp⟩ := dv
        obtain ⟨p', o, e1, e2, vs, e3, g⟩ := R.take hc
        rw [hp] at e1
        cases e1; cases e3
        cases r
        obtain ⟨_, its, n', rv, h1⟩ := (show ObjOk P w H h p (.lst vs) from hok p _ e2)
        obtain ⟨as, q⟩ := readss_of R hok g rv k
        exact ⟨_, .list h1 rfl rfl (by simpa using q)⟩
      | _ => simp [D.showOk] at k
  | _ => exact reads_of R hok dv r k
theorem cb_repr (hg : X.A.guards = some []) (hu : X.A.units + 64 < cLine) : CallR X (.builtin "repr") (rCall N (D.blt .repr)) := by
  intro pins t σ H vs us Q I r h
  obtain ⟨W, s, ds, z, R, g, hz, q⟩ := h
  match ds, hz with
  | [x], hz =>
    obtain ⟨v, rfl, dx⟩ := g.one
    have hz : (x.repr s).map D.str = some z := hz
    unfold D.repr at hz
    by_cases hk : ((x.res s).showOk && decide ((x.res s).depth < 60) && decide ((x.res s).show.length ≤ lim)) = true
    · rw [if_pos hk] at hz
      cases hz
      simp only [Bool.and_eq_true, decide_eq_true_eq] at hk
      obtain ⟨⟨k1, k2⟩, k3⟩ := hk
      obtain ⟨s1, s2, s3, s4⟩ := show_ok k1
      cases r with
      | cons r1 rs =>
        cases rs
        obtain ⟨as, rd⟩ := reads_res R I.hok dx r1 k1
        have fit : (x.res s).py.shown.length ≤ sizeLine := by rw [s3]; exact lim_le k3
        have dn : ∀ (h' : Heap) (u : Tok) (tk : Nat), (∀ b o, t.heap.get? b = some o → h'.get? b = some o) → EP X pins σ Q (.str (x.res s).py.shown u) { t with heap := h', toks := tk } := fun h' u tk hk =>
          ⟨.str (x.res s).show, H, I.kept hk, ⟨u, by rw [s3]⟩, Out.val q R (by simp [DV])⟩
        generalize hd : (x.res s).py = d at rd s1 s2 s4 fit dn
        have kp : ∀ (h' : Heap) (u : Tok) (tk : Nat), h' = t.heap → EP X pins σ Q (.str d.shown u) { t with heap := h', toks := tk } := fun h' u tk e => dn h' u tk fun b o z => by rw [e]; exact z
        cases rd with
        | none => exact PySem.P.repr_of_none (kp _ _ _ rfl)
        | bool k => exact PySem.P.repr_of_bool (kp _ _ _ rfl)
        | int i tk => exact PySem.P.repr_of_int (of_decide_eq_true s1) (kp _ _ _ rfl)
        | str y tk => exact PySem.P.repr_of_str (kp _ _ _ rfl) fit
        | list e1 e2 e3 e4 => exact repr_of_reads' (.list e1 e2 e3 e4) s1 (PyData.noDict_hsm s2) hg (by rw [s4]; omega) (fun _ _ z => z) dn fit
        | tuple e1 e2 e3 e4 => exact repr_of_reads' (.tuple e1 e2 e3 e4) s1 (PyData.noDict_hsm s2) hg (by rw [s4]; omega) (fun _ _ z => z) dn fit
        | dict => simp [PyData.hasDict] at s2
    · rw [if_neg hk] at hz; cases hz
/-! ### isinstance -/
/-- the built-in kinds by name -/
def TyR.nm : TyR → String
  | .int => "int" | .bool => "bool" | .str => "str" | .tuple => "tuple" | .list => "list" | .dict => "dict" | .own _ => "object"
def TyR.blt : TyR → Bool
  | .own _ => false
  | _ => true
/-- a class as a value -/
def TyR.v (N : Names) : TyR → V
  | .own c => .ref (N.ca c)
  | t => .ty t.nm
def TyR.u (N : Names) : TyR → Value
  | .own c => .ref (N.ca c)
  | t => .type t.nm
theorem ty_clsV (t : TyR) : ClsV (t.v N) (t.u N) := by
  cases t <;> first | exact .own _ | exact .ty _
/-- the own classes in K -/
structure ClF (K : PySem.W.Frag) (N : Names) (n : Nat) : Prop where
  cls : ∀ c, c < n → Cls K (N.ca c)
  cc : ∀ c, c < n → PySem.W.findIn K (.ref (N.ca c)) "__class__" = some (some (.builtin "object.__class__"))
  sp : 0 < n → PySem.W.specialIn K (.builtin "object.__class__") "__get__" = some (some (.builtin "getset_descriptor.__get__"))
  tk : 0 < n → PySem.W.takesIn K (.builtin "object.__class__") = some true
  ob : ∀ c, c < n → PySem.W.mroIn K (N.ca c) (.type "object") = some true
  out : ∀ c, c < n → ∀ t : TyR, t.blt = true → PySem.W.kitOne K (.ref (N.ca c)) (.type t.nm) = some false
  inn : ∀ c, c < n → ∀ t : TyR, t.blt = true → PySem.W.kitOne K (.type t.nm) (.ref (N.ca c)) = some false
  inN : ∀ c, c < n → PySem.W.kitOne K (.type "NoneType") (.ref (N.ca c)) = some false
  own : ∀ c, c < n → ∀ c', c' < n → PySem.W.kitOne K (.ref (N.ca c)) (.ref (N.ca c')) = some (c == c')
/-- what a value's kind is; none: None -/
def TyR.val (N : Names) : Option TyR → Value
  | none => .type "NoneType"
  | some t => t.u N
theorem kitBB : ∀ (t : TyR) (k : Option TyR), t.blt = true → (∀ u, k = some u → u.blt = true ∧ (u = .bool → t ≠ .int)) → kitB (match k with | none => "NoneType" | some u => u.nm) t.nm = some (k == some t) := by
  intro t k ht hk
  cases k with
  | none => cases t <;> first | (cases ht; done) | decide +kernel
  | some u =>
    obtain ⟨hu, hb⟩ := hk u rfl
    cases t <;> (first | (cases ht; done) | (cases u <;> first | (cases hu; done) | (exact absurd rfl (hb rfl)) | decide +kernel))
theorem kit_isB {K : PySem.W.Frag} {n : Nat} (F : ClF K N n) {t : TyR} {k : Option TyR} {b : Bool} (hk : ∀ c, k = some (.own c) → c < n) (hb : k = some .bool → t ≠ .int) (h : TyR.isB n t k = some b) : PySem.W.kitOne K (TyR.val N k) (t.u N) = some b := by
  cases t with
  | own c =>
    simp only [TyR.isB] at h
    by_cases hc : c < n
    · rw [if_pos hc] at h
      cases h
      cases k with
      | none => exact F.inN c hc
      | some u =>
        cases u with
        | own c' =>
          have e := F.own c' (hk c' rfl) c hc
          show PySem.W.kitOne K (.ref (N.ca c')) (.ref (N.ca c)) = _
          rw [e]
          congr 1
          rw [Bool.eq_iff_iff]
          simp
        | _ => exact F.inn c hc _ rfl
    · rw [if_neg hc] at h; cases h
  | _ =>
    cases h
    cases k with
    | none => exact kit_ty (kitBB _ none rfl fun u z => nomatch z)
    | some u =>
      cases u with
      | own c' => rw [show TyR.val N (some (.own c')) = .ref (N.ca c') from rfl]; exact F.out c' (hk c' rfl) _ rfl
      | _ => exact kit_ty (kitBB _ (some _) rfl fun u z => by cases z; exact ⟨rfl, fun e => by first | (cases e; done) | (cases e; exact hb rfl)⟩)
theorem dct_ty {K : PySem.W.Frag} {p : Addr} {ks : List D} {us : List V} (h : DctO ks us (H p)) : TyOf K H (.ref p) (.type "dict") := by
  rcases h with ⟨kk, _, e, _⟩ | ⟨kk, _, e, _⟩
  · exact .dK e
  · exact .dT e
/-- isinstance's answer -/
theorem isi_at {K : PySem.W.Frag} {n : Nat} (hK : N.K = K) (F : ClF K N n) (R : RH N.toNm W s H) {t : TyR} {d : D} {v : V} {b : Bool} (dv : DV N.toNm W d v) (h : t.is n s d = some b) : ∃ T, TyX K H v T ∧ PySem.W.kitOne K T (t.u N) = some b := by
  have sim : ∀ {k : TyR}, k.blt = true → k ≠ .bool → TyOf K H v (.type k.nm) → TyR.isB n t (some k) = some b → ∃ T, TyX K H v T ∧ PySem.W.kitOne K T (t.u N) = some b := fun {k} hk hb ty e =>
    ⟨_, .base ty, by
      have := kit_isB F (k := some k) (fun c z => by cases z; cases hk) (fun z => by cases z; exact absurd rfl hb) e
      cases k <;> first | (cases hk; done) | exact this⟩
  have ins : ∀ {p : Addr} {c : Nat} {dx : Addr} {fs : List (Str × V)}, v = .ref p → H p = some (.ins (N.ca c) dx fs) → c < n → TyR.isB n t (some (.own c)) = some b → ∃ T, TyX K H v T ∧ PySem.W.kitOne K T (t.u N) = some b := fun {p c dx fs} ev e hc h =>
    ⟨_, .base (by rw [ev]; exact .ins e (F.cls c hc) (F.cc c hc) (F.sp (Nat.lt_of_le_of_lt (Nat.zero_le _) hc)) (F.tk (Nat.lt_of_le_of_lt (Nat.zero_le _) hc)) (F.ob c hc)), kit_isB F (k := some (.own c)) (fun c' z => by cases z; exact hc) (fun z => nomatch z) h⟩
  cases d with
  | non => cases dv; exact ⟨_, .base .non, kit_isB F (k := none) (fun c z => nomatch z) (fun z => nomatch z) h⟩
  | bl k =>
    cases dv
    have int : t ≠ .int → TyR.isB n t (some .bool) = some b → ∃ T, TyX K H (.bl k) T ∧ PySem.W.kitOne K T (t.u N) = some b := fun ht e => ⟨_, .base (.bl k), kit_isB F (k := some .bool) (fun c z => nomatch z) (fun _ => ht) e⟩
    cases t with
    | int => cases h; exact ⟨_, .base (.bl k), kit_ty (by decide +kernel)⟩
    | bool => cases h; exact int (by intro z; cases z) rfl
    | _ => exact int (by intro z; cases z) h
  | int i => cases dv; exact sim (k := .int) rfl (by intro z; cases z) (.int i) h
  | str x => cases dv; exact sim (k := .str) rfl (by intro z; cases z) (.str x) h
  | tup ds => obtain ⟨p, vs, rfl, f, g⟩ := dv; exact sim (k := .tuple) rfl (by intro z; cases z) (.tup (R.fz _ _ f)) h
  | lst ds => obtain ⟨p, vs, rfl, f, g⟩ := dv; exact sim (k := .list) rfl (by intro z; cases z) (.lst (R.fz _ _ f)) h
  | lck ds =>
    obtain ⟨p, vs, rfl, f, g⟩ := dv
    rcases f with ⟨o, f⟩ | ⟨o, its, m, f1, f2, _⟩
    · exact sim (k := .list) rfl (by intro z; cases z) (.frz (R.fz _ _ f)) h
    · rw [hK] at f1
      refine ⟨_, .kList f1 f2, ?_⟩
      have := kit_isB F (k := some .list) (fun c z => by cases z) (fun z => by cases z) h
      exact this
  | dct ks ds =>
    obtain ⟨p, us, rfl, f, g⟩ := dv
    refine sim (k := .dict) rfl (by intro z; cases z) (dct_ty (ks := ks) (us := us) ?_) h
    rcases f with ⟨kk, e1, e2, e3⟩ | ⟨kk, e1, e2, e3⟩
    · exact .inl ⟨kk, e1, R.fz _ _ e2, e3⟩
    · exact .inr ⟨kk, e1, R.fz _ _ e2, e3⟩
  | ins c fs ds =>
    obtain ⟨p, dx, us, rfl, f, g⟩ := dv
    simp only [TyR.is] at h
    by_cases hc : c < n
    · rw [if_pos hc] at h; exact ins rfl (R.fz _ _ f) hc h
    · rw [if_neg hc] at h; cases h
  | loc m =>
    obtain ⟨p, rfl, hp⟩ := dv
    simp only [TyR.is] at h
    cases hc : s.get m with
    | none => rw [hc] at h; cases h
    | some c =>
      rw [hc] at h
      obtain ⟨p', o, e1, e2, e3⟩ := R.take hc
      rw [hp] at e1
      cases e1
      cases c with
      | lst ds => obtain ⟨vs, e, _⟩ := e3; cases e; exact sim (k := .list) rfl (by intro z; cases z) (.lst e2) h
      | dct ks ds =>
        obtain ⟨us, f, _⟩ := e3
        exact sim (k := .dict) rfl (by intro z; cases z) (dct_ty (ks := ks) (us := us) (by rw [e2]; exact f)) h
      | ins c fs ds =>
        obtain ⟨dx, us, e, _⟩ := e3
        cases e
        have h : (if c < n then TyR.isB n t (some (.own c)) else none) = some b := h
        by_cases hc : c < n
        · rw [if_pos hc] at h; exact ins rfl e2 hc h
        · rw [if_neg hc] at h; cases h
      | dead => cases h
def mIsi (n : Nat) (t : TyR) (m : Env → Sto → Res D) (en : Env) (s : Sto) : Res D := (m en s).bind fun x s1 => Res.opt ((t.is n s1 x).map .bl) s1
theorem je_isi {n : Nat} {x : Str} {p pos : Pos} {t : TyR} {m : Env → Sto → Res D} {c : Expr} (hK : N.K = X.K) (F : ClF X.K N n) (hg : Gl X x) (hm : X.mg x = none) (hv : bootBuiltins x = some (.builtin "isinstance")) (he : JE N X e m) (hc : PE X c (tC (t.v N)))
    (hn : x ≠ "__name__") (hdb : (x == ("__debug__" : Str)) = false) (h1 : starEach [e, c] X.env = (false, eval e X.env) :: starEach [c] X.env) (h2 : starEach [c] X.env = (false, eval c X.env) :: starEach [] X.env) (hpl : (backTo pos (starEach [c] X.env)).any (·.1) = false) :
    JE N X (.Call (.Name x p) [e, c] [] pos) (mIsi n t m) := by
  refine ⟨fun E tk => (pe_callB call_isi hg hm hv (pa_cons (he.run E tk) (pa_cons hc pa_nil h2) h1) hn hdb h1 hpl).imp fun σ H Q ⟨W, s, en, R, eo, p⟩ => ?_⟩
  refine ⟨W, s, en, R, eo, (Post.bind (rel := DVr N) p).imp fun v H1 ⟨W1, s1, d, l1, R1, dd, p1⟩ => ?_⟩
  obtain ⟨z, hz, q⟩ := p1.opt
  cases hb : t.is n s1 d with
  | none => rw [hb] at hz; cases hz
  | some b =>
    rw [hb] at hz
    cases hz
    obtain ⟨T, ty, k⟩ := isi_at hK F R1 dd hb
    exact ⟨v, t.v N, T, t.u N, b, rfl, ty_clsV t, ty, k, q W1 H1 _ (Wd.Le.refl _) R1 (by simp [DV])⟩
end
end Zd

/-! Zd: methods of built-in types, what a for walks, comprehensions, dict displays. -/
namespace Zd
open PySem PySem.Spec PyProof.Rows L2
section
variable {N : Names} {X : Cx} {W : Wd} {s : Sto} {H : Hp} {a b c e o : Expr} {es : List Expr} {pos : Pos} {M : Sem}
/-! ### - x -/
def mNeg (m : Env → Sto → Res D) (en : Env) (s : Sto) : Res D := (m en s).bind fun x s1 => Res.opt (D.neg x) s1
theorem je_neg {m : Env → Sto → Res D} (he : JE N X e m) : JE N X (.UnaryOp .USub e pos) (mNeg m) := by
  refine ⟨fun E tk => (pe_un un_neg (he.run E tk)).imp fun σ H Q ⟨W, s, en, R, eo, p⟩ => ?_⟩
  refine ⟨W, s, en, R, eo, (Post.bind (rel := DVr N) p).imp fun v H1 ⟨W1, s1, x, l1, R1, dx, p1⟩ => ?_⟩
  obtain ⟨z, hz, q⟩ := p1.opt
  cases x with
  | int i => cases hz; cases dx; exact ⟨i, rfl, q W1 H1 _ (Wd.Le.refl _) R1 (by simp [DV])⟩
  | _ => cases hz
/-! ### methods -/
def mMeth (k : D → Sto → Bool) (g : D → List D → Sto → Option (D × Sto)) (m : Env → Sto → Res D) (ms : Env → Sto → Res (List D)) (en : Env) (s : Sto) : Res D :=
  (m en s).bind fun x s1 => if k x s1 then (ms en s1).bind fun ds s2 => match g x ds s2 with
    | some (d, s3) => .ok d s3
    | none => .bad else .bad
/-- a method by values -/
def rMeth (N : Names) (g : D → List D → Sto → Option (D × Sto)) : V → List V → Hp → VK → Prop := fun x vs H Q => ∃ W s d ds z s', RH N.toNm W s H ∧ DV N.toNm W d x ∧ DVs N.toNm W ds vs ∧ g d ds s = some (z, s') ∧ ∀ W' H' v, W.Le W' → RH N.toNm W' s' H' → DV N.toNm W' z v → Q v H'
theorem rd_meth {T : String} {k : D → Sto → Bool} {g : D → List D → Sto → Option (D × Sto)} {m : Env → Sto → Res D} {ms : Env → Sto → Res (List D)} {E : WX} {Q : VK} {σ : L2.St}
    (hT : ∀ {W s H d v}, RH N.toNm W s H → DV N.toNm W d v → k d s = true → tyV X.K T v H) (h : Rd N (mMeth k g m ms) E σ H Q) : tBM X.K T (rMeth N g) (Rd N m E) (RdA N ms E) σ H Q := by
  obtain ⟨W, s, en, R, eo, p⟩ := h
  refine ⟨W, s, en, R, eo, (Post.bind (rel := DVr N) p).imp fun v H1 ⟨W1, s1, x, l1, R1, dx, p1⟩ => ?_⟩
  by_cases hk : k x s1 = true
  · rw [if_pos hk] at p1
    refine ⟨hT R1 dx hk, W1, s1, en, R1, eo.mono l1, (Post.bind (rel := DVsr N) p1).imp fun vs H2 ⟨W2, s2, ds, l2, R2, g2, p2⟩ => ?_⟩
    cases hg : g x ds s2 with
    | none => rw [hg] at p2; exact p2.elim
    | some z =>
      obtain ⟨z, s3⟩ := z
      rw [hg] at p2
      exact ⟨W2, s2, x, ds, z, s3, R2, dx.mono l2, g2, hg, p2⟩
  · rw [if_neg hk] at p1; exact p1.elim
theorem ty_lst {K : PySem.W.Frag} {d : D} {v : V} (R : RH N.toNm W s H) (dv : DV N.toNm W d v) (h : (d.lst? s).isSome = true) : tyV K "list" v H := by
  obtain ⟨ds, e⟩ := Option.isSome_iff_exists.mp h
  obtain ⟨p, vs, rfl, hp, _⟩ := lst_at R dv e
  exact .inl ⟨rfl, vs, SqL.of hp⟩
theorem mt_app : MtR X "list.append" (rMeth N (D.smeth .append)) := by
  intro pins t σ H x xs v us Q I rx rs h
  obtain ⟨W, s, d, ds, z, s', R, dx, g, hz, q⟩ := h
  match ds, hz with
  | [y], hz =>
    obtain ⟨y', rfl, dy⟩ := g.one
    cases d with
    | loc n =>
      simp only [D.smeth] at hz
      cases hc : s.get n with
      | none => rw [hc] at hz; cases hz
      | some c =>
        rw [hc] at hz
        cases c with
        | lst es =>
          have hz : (if es.length < lim then some (D.non, s.put n (.lst (es ++ [y]))) else none) = some (z, s') := hz
          by_cases hl : es.length < lim
          · rw [if_pos hl] at hz
            cases hz
            obtain ⟨p, rfl, hp⟩ := dx
            obtain ⟨p', u, e1, e2, vs, e3, g2⟩ := R.take hc
            rw [hp] at e1
            cases e1; cases e3
            refine mt_append pins t σ H _ _ v us Q I rx rs ⟨p, vs, y', rfl, rfl, e2, lim_lt (by rw [← g2.length]; exact hl), ?_⟩
            exact q W _ _ (Wd.Le.refl _) (R.put hp (by rw [hc]; intro z; cases z) ⟨_, rfl, g2.append (.cons dy .nil)⟩) (by simp [DV])
          · rw [if_neg hl] at hz; cases hz
        | _ => cases hz
    | _ => cases hz
theorem strs_vs : ∀ {ds : List D} {zs : List Str} {vs : List V}, D.strs ds = some zs → DVs N.toNm W ds vs → vs = zs.map V.str
  | [], _, _, e, g => by cases e; exact g
  | d :: ds, _, _, e, g => by
    obtain ⟨x, r, rfl, f, g⟩ := g
    cases d with
    | str b =>
      have e : (D.strs ds).map (b :: ·) = some _ := e
      cases h : D.strs ds with
      | none => rw [h] at e; cases e
      | some r' =>
        rw [h] at e
        cases e
        cases f
        rw [strs_vs h g]
        rfl
    | _ => cases e
theorem mt_joi : MtR X "str.join" (rMeth N (D.smeth .join)) := by
  intro pins t σ H x xs v us Q I rx rs h
  obtain ⟨W, s, d, ds, z, s', R, dx, g, hz, q⟩ := h
  match ds, hz with
  | [y], hz =>
    obtain ⟨y', rfl, dy⟩ := g.one
    cases d with
    | str a =>
      cases dx
      have hz : ((y.lst? s).bind D.strs).bind (fun zs => if (zs.map (·.length)).sum + zs.length * a.length ≤ lim then some (D.str (Str.join a zs), s) else none) = some (z, s') := hz
      cases h1 : y.lst? s with
      | none => rw [h1] at hz; cases hz
      | some es =>
        rw [h1] at hz
        have hz : (D.strs es).bind (fun zs => if (zs.map (·.length)).sum + zs.length * a.length ≤ lim then some (D.str (Str.join a zs), s) else none) = some (z, s') := hz
        cases h2 : D.strs es with
        | none => rw [h2] at hz; cases hz
        | some zs =>
          rw [h2] at hz
          have hz : (if (zs.map (·.length)).sum + zs.length * a.length ≤ lim then some (D.str (Str.join a zs), s) else none) = some (z, s') := hz
          by_cases hl : (zs.map (·.length)).sum + zs.length * a.length ≤ lim
          · rw [if_pos hl] at hz
            cases hz
            obtain ⟨p, ws, rfl, hp, g2⟩ := lst_at R dy h1
            rw [strs_vs h2 g2] at hp
            refine mt_join pins t σ H _ _ v us Q I rx rs ⟨a, p, zs, rfl, rfl, .inl (SqL.of hp), Nat.le_trans hl (by decide), ?_⟩
            have e : Txt.join a zs = Str.join a zs := PySem.StrLaws.glued_eq_join a zs
            rw [e]
            exact q W _ _ (Wd.Le.refl _) R (by simp [DV])
          · rw [if_neg hl] at hz; cases hz
    | _ => cases hz
theorem je_meth {k : D → Sto → Bool} {g : D → List D → Sto → Option (D × Sto)} {m : Env → Sto → Res D} {ms : Env → Sto → Res (List D)} {T id : String} {name : Str} {apos cpos : Pos} (pa : PlainAttrs T) (slot : Slot T name id)
    (hty : typeOf (.builtin id) = pure (.type "method_descriptor")) (hm : MtR X id (rMeth N g)) (hT : ∀ {W s H d v}, RH N.toNm W s H → DV N.toNm W d v → k d s = true → tyV X.K T v H) (ho : JE N X o m) (ha : JA N X (e :: es) ms)
    (hbase : attributeBase o name X.env (eval o X.env) = eval o X.env)
    (hfew : ((backTo cpos (starEach (e :: es) X.env)).all (fun x => !x.1) && (backToKw cpos (keywordEach [] X.env)).all (fun x => x.1.isSome)
      && decide ((e :: es).length + ([] : List Keyword).length + (if ([] : List Keyword).isEmpty then 0 else 1) < 30)) = true)
    (hline : (apos.endLine == cpos.line) = true) (hs : starEach (e :: es) X.env = (false, eval e X.env) :: starEach es X.env) (hpl : (backTo cpos (starEach es X.env)).any (·.1) = false) :
    JE N X (.Call (.Attribute o name apos) (e :: es) [] cpos) (mMeth k g m ms) :=
  ⟨fun E tk => (pe_bm pa slot hty hm (ho.run E tk) (ha.run E tk) hbase hfew hline hs hpl).imp fun σ H Q h => rd_meth hT h⟩
end
end Zd

/-! Zd: what a for walks, targets, comprehensions, dict displays. -/
namespace Zd
open PySem PySem.Spec PyProof.Rows L2
section
variable {N : Names} {X : Cx} {W : Wd} {s : Sto} {H : Hp} {a b c e o : Expr} {es : List Expr} {pos : Pos} {M : Sem}
/-! ### what a for walks -/
/-- the walker gives the values ds -/
def IterOk (N : Names) (W : Wd) (ds : List D) (J : L2.It) : Prop := ∀ W' s' H', W.Le W' → RH N.toNm W' s' H' → ∀ i, (∀ d, ds[i]? = some d → J.go i H' ∧ ∀ x H2, J.yld i H' x H2 → H2 = H' ∧ DV N.toNm W' d x) ∧ (ds.length ≤ i → J.stop i H')
def RdI (N : Names) (m : Env → Sto → Res (List D)) (E : WX) : TI := fun σ H Q => ∃ W s en, RH N.toNm W s H ∧ EnvOk N W en σ ∧ Post N (IterOk N) (m en s) W Q (fun c d H => E c d σ H)
structure JI (N : Names) (X : Cx) (tg e : Expr) (m : Env → Sto → Res (List D)) : Prop where
  run : ∀ E, Takes X E → PI X tg e (RdI N m E)
theorem _root_.L2.PI.imp {X : Cx} {tg e : Expr} {t t' : TI} (h : PI X tg e t) (k : ∀ σ H Q, t' σ H Q → t σ H Q) : PI X tg e t' := ⟨fun pins s σ H Q I q => h.run pins s σ H Q I (k σ H Q q)⟩
theorem iter_lst {K : PySem.W.Frag} {p : Addr} {vs : List V} {ds : List D} (g : DVs N.toNm W ds vs) (h : ∀ W' s' H', W.Le W' → RH N.toNm W' s' H' → SqL K H' p vs) : IterOk N W ds (Itl K p) := by
  intro W' s' H' l R i
  have hq := h W' s' H' l R
  have g := g.mono l
  refine ⟨fun d hd => ?_, fun hl => ⟨vs, hq, by rw [← g.length]; exact hl⟩⟩
  obtain ⟨v, hv, dv⟩ := g.get hd
  refine ⟨⟨vs, v, hq, hv⟩, fun x H2 ⟨e, y⟩ => ⟨e, ?_⟩⟩
  have := y vs hq
  rw [hv] at this
  cases this
  exact dv
theorem iter_tup {K : PySem.W.Frag} {p : Addr} {vs : List V} {ds : List D} (g : DVs N.toNm W ds vs) (h : ∀ W' s' H', W.Le W' → RH N.toNm W' s' H' → SqT K H' p vs) : IterOk N W ds (Itt K p) := by
  intro W' s' H' l R i
  have hq := h W' s' H' l R
  have g := g.mono l
  refine ⟨fun d hd => ?_, fun hl => ⟨vs, hq, by rw [← g.length]; exact hl⟩⟩
  obtain ⟨v, hv, dv⟩ := g.get hd
  refine ⟨⟨vs, v, hq, hv⟩, fun x H2 ⟨e, y⟩ => ⟨e, ?_⟩⟩
  have := y vs hq
  rw [hv] at this
  cases this
  exact dv
theorem iter_str {x : Str} : IterOk N W (x.cps.toList.map fun c => D.str ⟨#[c]⟩) (Its x) := by
  intro W' s' H' l R i
  refine ⟨fun d hd => ?_, fun hl => ?_⟩
  · rw [List.getElem?_map] at hd
    cases h : x.cps.toList[i]? with
    | none => rw [h] at hd; cases hd
    | some c =>
      rw [h] at hd
      cases hd
      rw [Array.getElem?_toList] at h
      refine ⟨(Array.getElem?_eq_some_iff.mp h).1, fun y H2 ⟨e, c', hc, ey⟩ => ⟨e, ?_⟩⟩
      rw [h] at hc
      cases hc
      rw [ey]
      simp [DV]
  · show x.cps.size ≤ i
    simpa using hl
theorem iter_rng {lo hi : Int} : IterOk N W (rng lo hi) (Itr lo (hi - lo).toNat) := by
  intro W' s' H' l R i
  unfold rng
  refine ⟨fun d hd => ?_, fun hl => ?_⟩
  · rw [List.getElem?_map] at hd
    cases h : (List.range (hi - lo).toNat)[i]? with
    | none => rw [h] at hd; cases hd
    | some c =>
      rw [h] at hd
      cases hd
      obtain ⟨h1, h2⟩ := List.getElem?_eq_some_iff.mp h
      rw [List.length_range] at h1
      rw [List.getElem_range] at h2
      subst h2
      refine ⟨h1, fun y H2 ⟨e, ey⟩ => ⟨e, ?_⟩⟩
      rw [ey]
      simp [DV]
  · rw [List.length_map, List.length_range] at hl
    exact hl
def mItems (m : Env → Sto → Res D) (en : Env) (s : Sto) : Res (List D) := (m en s).bind fun x s1 => Res.opt (x.items s1) s1
theorem ji_val (hK : N.K = X.K) {tg : Expr} {m : Env → Sto → Res D} (he : JE N X e m) : JI N X tg e (mItems m) := by
  refine ⟨fun E tk => ⟨fun pins t σ H Q I ⟨W, s, en, R, eo, p⟩ => ?_⟩⟩
  have asL : (∀ d s1, m en s = .ok d s1 → ∃ ds, d = .lst ds ∨ d = .lck ds) → wpAny (model X.prog X.w) X.A (eval e X.env) (fun v s1 => wpAny (model X.prog X.w) X.A (pyIter v) (PIE X pins σ tg Q) X.xe s1) X.xe t := fun hk => by
    refine (pi_list (he.run E tk)).run pins t σ H Q I ⟨W, s, en, R, eo, ?_⟩
    unfold mItems at p
    cases hm : m en s with
    | ok d s1 =>
      rw [hm] at p
      rcases hk d s1 hm with ⟨ds, rfl | rfl⟩
      · intro W' H' v l R' dv
        obtain ⟨q, vs, rfl, f, g⟩ := dv
        exact ⟨q, rfl, ⟨vs, SqL.of (R'.fz _ _ f)⟩, p W' H' _ l R' (iter_lst g fun W2 s2 H2 l2 R2 => SqL.of (R2.fz _ _ (l2.fz _ _ f)))⟩
      · intro W' H' v l R' dv
        obtain ⟨q, vs, rfl, hq, g⟩ := lck_at hK R' dv
        obtain ⟨q', vs', e, f, g'⟩ := dv
        cases e
        refine ⟨q, rfl, ⟨vs, hq⟩, p W' H' _ l R' (iter_lst g' fun W2 s2 H2 l2 R2 => ?_)⟩
        rcases f with ⟨o, f⟩ | f
        · exact .inl (.inr ⟨o, R2.fz _ _ (l2.fz _ _ f)⟩)
        · exact .inr (by rw [← hK]; exact f)
    | exc c vs s1 => rw [hm] at p; exact p
    | bad => rw [hm] at p; exact p
  cases hm : m en s with
  | ok d s1 =>
    have p2 := p
    unfold mItems at p2
    rw [hm] at p2
    cases d with
    | tup ds =>
      refine (pi_tup (he.run E tk)).run pins t σ H Q I ⟨W, s, en, R, eo, ?_⟩
      rw [hm]
      intro W' H' v l R' dv
      obtain ⟨q, vs, rfl, f, g⟩ := dv
      exact ⟨q, rfl, ⟨vs, SqT.of (R'.fz _ _ f)⟩, p2 W' H' _ l R' (iter_tup g fun W2 s2 H2 l2 R2 => SqT.of (R2.fz _ _ (l2.fz _ _ f)))⟩
    | str x =>
      refine (pi_str (he.run E tk)).run pins t σ H Q I ⟨W, s, en, R, eo, ?_⟩
      rw [hm]
      intro W' H' v l R' dv
      cases dv
      exact ⟨x, rfl, p2 W' H' _ l R' iter_str⟩
    | lst ds => exact asL fun d' s' e => by rw [hm] at e; cases e; exact ⟨ds, .inl rfl⟩
    | lck ds => exact asL fun d' s' e => by rw [hm] at e; cases e; exact ⟨ds, .inr rfl⟩
    | _ => exact p2.elim
  | exc c vs s1 => exact asL fun d' s' e => by rw [hm] at e; cases e
  | bad => exact asL fun d' s' e => by rw [hm] at e; cases e
def mRng (n : Nat) (ms : Env → Sto → Res (List D)) (en : Env) (s : Sto) : Res (List D) := (ms en s).bind fun ds s1 => Res.opt (D.range n ds) s1
theorem small_ok {i : Int} (h : small62 i = true) : -(2 ^ 62) ≤ i ∧ i < 2 ^ 62 := by
  unfold small62 at h
  simpa using h
theorem ji_rng1 {tg : Expr} {ms : Env → Sto → Res (List D)} {p : Pos} (hg : Gl X "range") (hm : X.mg "range" = none) (ha : JA N X [a] ms) (hs : starEach [a] X.env = [(false, eval a X.env)]) : JI N X tg (.Call (.Name "range" p) [a] [] pos) (mRng 1 ms) := by
  refine ⟨fun E tk => (pi_range1 hg hm (ha.run E tk) hs).imp fun σ H Q ⟨W, s, en, R, eo, p⟩ => ?_⟩
  refine ⟨W, s, en, R, eo, (Post.bind (rel := DVsr N) p).imp fun vs H1 ⟨W1, s1, ds, l1, R1, g, p1⟩ => ?_⟩
  obtain ⟨z, hz, q⟩ := p1.opt
  match ds, hz with
  | [.int j], hz =>
    obtain ⟨v, rfl, dv⟩ := g.one
    cases dv
    have hz : (if small62 j then some (rng 0 j) else none) = some z := hz
    by_cases hj : small62 j = true
    · rw [if_pos hj] at hz
      cases hz
      obtain ⟨h1, h2⟩ := small_ok hj
      refine ⟨j, rfl, h1, h2, q W1 H1 _ (Wd.Le.refl _) R1 ?_⟩
      have := iter_rng (N := N) (W := W1) (lo := 0) (hi := j)
      rw [Int.sub_zero] at this
      exact this
    · rw [if_neg hj] at hz; cases hz
theorem ji_rng2 {tg : Expr} {ms : Env → Sto → Res (List D)} {p : Pos} (hg : Gl X "range") (hm : X.mg "range" = none) (ha : JA N X [a, b] ms) (hs : starEach [a, b] X.env = [(false, eval a X.env), (false, eval b X.env)]) (hs2 : starEach [b] X.env = [(false, eval b X.env)]) :
    JI N X tg (.Call (.Name "range" p) [a, b] [] pos) (mRng 2 ms) := by
  refine ⟨fun E tk => (pi_range2 hg hm (ha.run E tk) hs hs2).imp fun σ H Q ⟨W, s, en, R, eo, p⟩ => ?_⟩
  refine ⟨W, s, en, R, eo, (Post.bind (rel := DVsr N) p).imp fun vs H1 ⟨W1, s1, ds, l1, R1, g, p1⟩ => ?_⟩
  obtain ⟨z, hz, q⟩ := p1.opt
  match ds, hz with
  | [.int i, .int j], hz =>
    obtain ⟨v, u, rfl, dv, du⟩ := g.two
    cases dv; cases du
    have hz : (if small62 i && small62 j then some (rng i j) else none) = some z := hz
    by_cases hj : (small62 i && small62 j) = true
    · rw [if_pos hj] at hz
      cases hz
      rw [Bool.and_eq_true] at hj
      obtain ⟨h1, h2⟩ := small_ok hj.1
      obtain ⟨h3, h4⟩ := small_ok hj.2
      exact ⟨i, j, rfl, ⟨h1, h2, h3, h4⟩, q W1 H1 _ (Wd.Le.refl _) R1 iter_rng⟩
    · rw [if_neg hj] at hz; cases hz
/-! ### targets -/
theorem EnvOk.set {en : Env} {σ : L2.St} {i : Nat} {d : D} {v : V} (eo : EnvOk N W en σ) (dv : DV N.toNm W d v) : EnvOk N W (en.set i (some d)) (σ.set i (some v)) := by
  refine ⟨by rw [List.length_set, List.length_set]; exact eo.1, fun j d' e => ?_⟩
  by_cases h : i = j
  · subst h
    by_cases hl : i < en.length
    · rw [List.getElem?_set_self hl] at e
      cases e
      exact ⟨v, by rw [List.getElem?_set_self (by rw [← eo.1]; exact hl)], dv⟩
    · rw [List.getElem?_eq_none (by rw [List.length_set]; omega)] at e; cases e
  · rw [List.getElem?_set_ne h] at e ⊢
    exact eo.2 j d' e
theorem wipe_set {σ : L2.St} {i : Nat} {o : Option V} : ∀ {own : List Nat}, i ∈ own → L2.wipe (σ.set i o) own = L2.wipe σ own
  | [], h => by cases h
  | v :: vs, h => by
    show (L2.wipe (σ.set i o) vs).set v none = (L2.wipe σ vs).set v none
    by_cases hv : i ∈ vs
    · rw [wipe_set hv]
    · have e : i = v := by
        rcases List.mem_cons.mp h with e | e
        · exact e
        · exact absurd e hv
      subst e
      clear h
      induction vs with
      | nil => show (σ.set i o).set i none = σ.set i none; rw [List.set_set]
      | cons w ws ih =>
        have hw : i ≠ w := fun z => hv (by rw [z]; exact List.mem_cons_self)
        show ((L2.wipe (σ.set i o) ws).set w none).set i none = ((L2.wipe σ ws).set w none).set i none
        rw [List.set_comm _ _ (Ne.symm hw), List.set_comm _ _ (Ne.symm hw), ih (fun z => hv (List.mem_cons_of_mem _ z))]
def Tg.gs : List Nat → TGs
  | [] => gNil
  | i :: is => gCons (gName i) (Tg.gs is)
def Tg.g (K : PySem.W.Frag) : Tg → TG
  | .nm i => gName i
  | .tp is => gTup K is.length (Tg.gs is)
theorem gs_ok {is0 : List Nat} : ∀ {is : List Nat} {ds : List D} {vs : List V} {en : Env} {σ σ0 : L2.St} {H : Hp} {Q : L2.St → Hp → Prop}, EnvOk N W en σ → DVs N.toNm W ds vs → ds.length = is.length → (∀ own : List Nat, (∀ i ∈ is0, i ∈ own) → L2.wipe σ own = L2.wipe σ0 own) → (∀ i ∈ is, i ∈ is0) →
    (∀ σ2, EnvOk N W ((is.zip ds).foldl (fun e p => e.set p.1 (some p.2)) en) σ2 → (∀ own : List Nat, (∀ i ∈ is0, i ∈ own) → L2.wipe σ2 own = L2.wipe σ0 own) → Q σ2 H) → Tg.gs is vs σ H Q
  | [], ds, vs, en, σ, σ0, H, Q, eo, g, l, w, _, q => by
    cases ds with
    | nil => cases (show vs = [] from g); exact ⟨rfl, q σ eo w⟩
    | cons _ _ => cases l
  | i :: is, ds, vs, en, σ, σ0, H, Q, eo, g, l, w, hs, q => by
    cases ds with
    | nil => cases l
    | cons d ds =>
      obtain ⟨v, r, rfl, dv, g⟩ := g
      refine ⟨v, r, rfl, gs_ok (eo.set dv) g (by simpa using l) (fun own h => ?_) (fun j h => hs j (List.mem_cons_of_mem _ h)) q⟩
      rw [wipe_set (h i (hs i List.mem_cons_self))]
      exact w own h
theorem g_ok {K : PySem.W.Frag} {t : Tg} {en en2 : Env} {σ : L2.St} {d : D} {v : V} {Q : L2.St → Hp → Prop} (R : RH N.toNm W s H) (eo : EnvOk N W en σ) (dv : DV N.toNm W d v) (h : t.bind d en = some en2)
    (q : ∀ σ2, EnvOk N W en2 σ2 → (∀ own : List Nat, (∀ i ∈ t.is, i ∈ own) → L2.wipe σ2 own = L2.wipe σ own) → Q σ2 H) : t.g K v σ H Q := by
  cases t with
  | nm i => cases h; exact q _ (eo.set dv) fun own h => wipe_set (h i (by simp [Tg.is]))
  | tp is =>
    cases d with
    | tup ds =>
      have h : (if ds.length = is.length then some ((is.zip ds).foldl (fun e p => e.set p.1 (some p.2)) en) else none) = some en2 := h
      by_cases hl : ds.length = is.length
      · rw [if_pos hl] at h
        cases h
        obtain ⟨p, vs, rfl, f, g⟩ := dv
        exact ⟨p, vs, rfl, SqT.of (R.fz _ _ f), by rw [← g.length]; exact hl, gs_ok (is0 := is) eo g hl (fun own _ => rfl) (fun i h => h) fun σ2 e w => q σ2 e w⟩
      · rw [if_neg hl] at h; cases h
    | _ => cases h
theorem jg_name {i : Nat} {x : Str} (hN : X.N.Nodup) (hi : X.N[i]? = some x) (hx : Loc X.env.scope x) (hf : X.fn x = true ∨ X.env.scope.names.lookup x = some .local) : PG X (.Name x pos) (Tg.g X.K (.nm i)) := pg_name hN hi hx hf
/-! ### comprehensions -/
structure JC (N : Names) (X : Cx) (ifs : List Expr) (m : Env → Sto → Res Bool) : Prop where
  run : ∀ E, Takes X E → PTs X ifs (RdT N m E)
theorem _root_.L2.PTs.imp {X : Cx} {e : List Expr} {t t' : TT} (h : PTs X e t) (k : ∀ σ H Q, t' σ H Q → t σ H Q) : PTs X e t' := ⟨fun pins s σ H Q I q => h.run pins s σ H Q I (k σ H Q q)⟩
theorem jc_nil : JC N X [] (fun _ s => .ok true s) := ⟨fun E tk => pts_nil.imp fun σ H Q ⟨W, s, en, R, eo, p⟩ => p W H true (Wd.Le.refl _) R rfl⟩
theorem jc_one {m : Env → Sto → Res Bool} (h : JT N X c m) : JC N X [c] m := ⟨fun E tk => pts_one (h.run E tk)⟩
def mComp (own : List Nat) (t : Tg) (mi : Env → Sto → Res (List D)) (mc : Env → Sto → Res Bool) (me : Env → Sto → Res D) (en : Env) (s : Sto) : Res D :=
  (mi en s).bind fun ds s1 =>
      (compGo (fun d s2 => match t.bind d (wipe en own) with
        | none => .bad
        | some en2 => (mc en2 s2).bind fun b s3 => if b then (me en2 s3).bind fun x s4 => .ok (some x) s4 else .ok none s3) ds [] s1).bind fun xs s2 => .ok (.lst xs) s2
theorem EnvOk.wipe {en : Env} {σ : L2.St} (eo : EnvOk N W en σ) : ∀ own : List Nat, EnvOk N W (Zd.wipe en own) (L2.wipe σ own)
  | [] => eo
  | v :: vs => by
    have ih := EnvOk.wipe eo vs
    show EnvOk N W ((Zd.wipe en vs).set v none) ((L2.wipe σ vs).set v none)
    refine ⟨by rw [List.length_set, List.length_set]; exact ih.1, fun j d e => ?_⟩
    by_cases h : v = j
    · subst h
      by_cases hl : v < (Zd.wipe en vs).length
      · rw [List.getElem?_set_self hl] at e; cases e
      · rw [List.getElem?_eq_none (by rw [List.length_set]; omega)] at e; cases e
    · rw [List.getElem?_set_ne h] at e ⊢
      exact ih.2 j d e
theorem wipe_at {σ : L2.St} {j : Nat} : ∀ {vs : List Nat}, (L2.wipe σ vs)[j]? = if j ∈ vs then (if j < σ.length then some none else none) else σ[j]?
  | [] => by simp [L2.wipe]
  | v :: vs => by
    show ((L2.wipe σ vs).set v none)[j]? = _
    rw [List.getElem?_set, wipe_at (vs := vs), L2.wipe_length]
    by_cases h : v = j
    · subst h; simp
    · rw [if_neg h]
      have h' : ¬ j = v := fun z => h z.symm
      simp [h']
theorem wipe_wipe {σ : L2.St} {own : List Nat} : L2.wipe (L2.wipe σ own) own = L2.wipe σ own := by
  apply List.ext_getElem?
  intro j
  rw [wipe_at, wipe_at, L2.wipe_length]
  by_cases h : j ∈ own
  · simp [h]
  · simp [h]
/-- no exception -/
abbrev NoX : WX := fun _ _ _ _ => False
theorem takes_no {X : Cx} : Takes X NoX := fun u s' ⟨a, B, sI, pins, σ, H, cls, d, e, I, nb, up, sky, na, os, ag, w⟩ => w.elim
theorem rd_comp {K : PySem.W.Frag} {own : List Nat} {t : Tg} {mi : Env → Sto → Res (List D)} {mc : Env → Sto → Res Bool} {me : Env → Sto → Res D} {E : WX} {σ : L2.St} {Q : VK} (hs : ∀ i ∈ t.is, i ∈ own) (h : RdN N (mComp own t mi mc me) E σ H Q) :
    tLc (RdI N mi E) (t.g K) (RdT N mc NoX) (Rd N me NoX) own σ H Q := by
  obtain ⟨W, s, en, R, eo, p⟩ := h
  refine ⟨W, s, en, R, eo, (PostN.bind (rel := IterOk N) p).imp fun J H1 ⟨W1, s1, ds, l1, R1, it, p1⟩ => ?_⟩
  intro L hL
  obtain ⟨f1, f2, f3⟩ := R1.fresh hL
  have eo1 := eo.mono l1
  generalize hf : (fun d s2 => match t.bind d (Zd.wipe en own) with
        | none => Res.bad
        | some en2 => (mc en2 s2).bind fun b s3 => if b then (me en2 s3).bind fun x s4 => .ok (some x) s4 else .ok none s3) = f at p1
  refine ⟨fun i m H => m = ds.length - i ∧ ∃ W2 s2 acc vs, W1.Le W2 ∧ W2.pv L = some (.lst vs) ∧ RH N.toNm W2 s2 H ∧ DVs N.toNm W2 acc vs ∧ PostN N ((compGo f (ds.drop i) acc s2).bind fun xs s2 => .ok (.lst xs) s2) W1 Q (fun c d H => E c d σ H),
    ⟨_, rfl, W1.own L (some (.lst [])), s1, [], [], Wd.own_le f3, Wd.own_at, R1.own f1 f2, .nil, by simpa using p1⟩, ?_⟩
  rintro i m H2 ⟨rfl, W2, s2, acc, vs, l2, hv, R2, g, p2⟩
  obtain ⟨go, stop⟩ := it W2 s2 H2 l2 R2 i
  cases hd : ds[i]? with
  | none =>
    have hl : ds.length ≤ i := by simpa using hd
    refine .inl ⟨stop hl, ?_⟩
    rw [List.drop_eq_nil_of_le hl] at p2
    have le : W1.Le (W2.own L none) := ⟨⟨l2.fz, l2.rho⟩, fun a o e => by
      show (if a = L then none else W2.pv a) = some o
      rw [if_neg (fun z => by rw [z, f3] at e; cases e)]
      exact l2.pv a o e⟩
    obtain ⟨d1, d2⟩ := R2.dp _ _ hv
    refine p2 (W2.own L none) H2 (.ref L) le R2.disown ⟨L, .lst vs, .lst acc, rfl, rfl, R2.pv _ _ hv, d1, ⟨d2, Wd.own_at⟩, vs, rfl, g.mono0 Wd.own_lo⟩
  | some d =>
    obtain ⟨go1, go2⟩ := go d hd
    have hi : i < ds.length := (List.getElem?_eq_some_iff.mp hd).1
    have hdr : ds.drop i = d :: ds.drop (i + 1) := by
      rw [List.drop_eq_getElem_cons hi]
      congr 1
      exact (List.getElem?_eq_some_iff.mp hd).2
    rw [hdr] at p2
    refine .inr ⟨go1, fun H' => ∃ W3 s3 acc' vs', W1.Le W3 ∧ W3.pv L = some (.lst vs') ∧ RH N.toNm W3 s3 H' ∧ DVs N.toNm W3 acc' vs' ∧ PostN N ((compGo f (ds.drop (i + 1)) acc' s3).bind fun xs s2 => .ok (.lst xs) s2) W1 Q (fun c d H => E c d σ H),
      fun H' ⟨W3, s3, acc', vs', q⟩ => ⟨ds.length - (i + 1), by omega, rfl, W3, s3, acc', vs', q⟩, fun x H' y => ?_⟩
    obtain ⟨rfl, dv⟩ := go2 x H' y
    unfold compGo at p2
    have ef : f d s2 = (match t.bind d (Zd.wipe en own) with
        | none => Res.bad
        | some en2 => (mc en2 s2).bind fun b s3 => if b then (me en2 s3).bind fun x s4 => .ok (some x) s4 else .ok none s3) := by rw [← hf]
    cases hb : t.bind d (Zd.wipe en own) with
    | none => rw [hb] at ef; rw [ef] at p2; exact p2.elim
    | some en2 =>
      rw [hb] at ef
      have ef : f d s2 = (mc en2 s2).bind fun b s3 => if b then (me en2 s3).bind fun x s4 => .ok (some x) s4 else .ok none s3 := ef
      refine g_ok R2 ((eo1.mono l2).wipe own) dv hb fun σ2 eo2 hw => ⟨by rw [hw own hs]; exact wipe_wipe, ?_⟩
      refine ⟨W2, s2, en2, R2, eo2, ?_⟩
      cases hm : mc en2 s2 with
      | ok b s3 =>
        rw [hm] at ef
        intro W3 H3 b' l3 R3 eb
        cases eb
        cases b with
        | false =>
          have ef : f d s2 = .ok none s3 := ef
          rw [ef] at p2
          exact ⟨W3, s3, acc, vs, l2.trans l3, l3.pv _ _ hv, R3, g.mono l3, p2⟩
        | true =>
          have ef : f d s2 = (me en2 s3).bind fun x s4 => .ok (some x) s4 := ef
          show Rd N me NoX σ2 H3 _
          refine ⟨W3, s3, en2, R3, eo2.mono l3, ?_⟩
          cases hx : me en2 s3 with
          | ok x' s4 =>
            rw [hx] at ef
            have ef : f d s2 = .ok (some x') s4 := ef
            rw [ef] at p2
            have p2 : PostN N ((if acc.length < lim then compGo f (ds.drop (i + 1)) (acc ++ [x']) s4 else .bad).bind fun xs s2 => .ok (.lst xs) s2) W1 Q (fun c d H => E c d σ H) := p2
            by_cases hl : acc.length < lim
            · rw [if_pos hl] at p2
              intro W4 H4 y' l4 R4 dy
              have hp := l4.pv _ _ (l3.pv _ _ hv)
              obtain ⟨d1, d2⟩ := R4.dp _ _ hp
              have gg := (g.mono l3).mono l4
              refine ⟨vs, R4.pv _ _ hp, lim_lt (by rw [← g.length]; exact hl), W4.own L (some (.lst (vs ++ [y']))), s4, acc ++ [x'], vs ++ [y'], ?_, Wd.own_at, R4.own d1 d2, DVs.mono0 Wd.own_lo (gg.append (.cons dy .nil)), p2⟩
              have l5 := (l2.trans l3).trans l4
              exact ⟨⟨l5.fz, l5.rho⟩, fun a o e => by
                show (if a = L then some (HO.lst (vs ++ [y'])) else W4.pv a) = some o
                rw [if_neg (fun z => by rw [z, f3] at e; cases e)]
                exact l5.pv a o e⟩
            · rw [if_neg hl] at p2; exact p2.elim
          | exc c us s4 => rw [hx] at ef; have ef : f d s2 = .exc c us s4 := ef; rw [ef] at p2; exact p2.elim
          | bad => rw [hx] at ef; have ef : f d s2 = .bad := ef; rw [ef] at p2; exact p2.elim
      | exc c us s3 => rw [hm] at ef; have ef : f d s2 = .exc c us s3 := ef; rw [ef] at p2; exact p2.elim
      | bad => rw [hm] at ef; have ef : f d s2 = .bad := ef; rw [ef] at p2; exact p2.elim
section
variable {elt tg iter : Expr} {ifs : List Expr} {scope : Scope} {own : List (Str × Nat)} {mi : Env → Sto → Res (List D)} {mc : Env → Sto → Res Bool} {me : Env → Sto → Res D} {t : Tg}
theorem jn_comp (hc : X.calm = true) (hN : X.N.Nodup) (hi : JI N X tg iter mi) (ok : BlkOk X.N X.env.scope scope own)
    (hg : ∀ (s : Shared) (H : Hp) (C : Addr) (cl : List (Str × Addr)) (fp : List Addr), PG (X.blk s H scope (compEnvC scope cl C X.env) fp) tg (t.g X.K)) (ht : ∀ (s : Shared) (H : Hp) (C : Addr) (cl : List (Str × Addr)) (fp : List Addr), JC N (X.blk s H scope (compEnvC scope cl C X.env) fp) ifs mc)
    (he : ∀ (s : Shared) (H : Hp) (C : Addr) (cl : List (Str × Addr)) (fp : List Addr), JE N (X.blk s H scope (compEnvC scope cl C X.env) fp) elt me) (hs : ∀ x, foldedSetIterable iter X.env x = pure x) (hsub : ∀ i ∈ t.is, i ∈ own.map (·.2)) :
    JN N X (.ListComp elt [⟨tg, iter, ifs, 0⟩] scope pos) (mComp (own.map (·.2)) t mi mc me) :=
  ⟨fun E tk => (pe_lc hc hN (hi.run E tk) ok hg (fun s H C cl fp => (ht s H C cl fp).run NoX takes_no) (fun s H C cl fp => (he s H C cl fp).run NoX takes_no) hs).imp fun σ H Q h => rd_comp hsub h⟩
end
/-! ### dict displays -/
theorem keq_inj {k q : D} {x y : Key} (hk : keyD k = some x) (hq : keyD q = some y) (h : D.keq k q = false) : x ≠ y := by
  intro e
  subst e
  cases k <;> cases q <;> first | (simp [keyD] at hk hq; done) | skip
  all_goals (simp only [keyD, Option.some.injEq] at hk hq; subst hk)
  all_goals first | (cases hq; simp [D.keq] at h; done) | (cases hq; done)
theorem isKey_some {k : D} (h : k.isKey = true) : ∃ x, keyD k = some x := by
  cases k <;> first | exact ⟨_, rfl⟩ | (cases h; done)
theorem keys_of : ∀ {ks : List D}, keysOk ks = true → ∃ kk : List Key, ks.map keyD = kk.map some ∧ kk.Nodup ∧ kk.length = ks.length
  | [], _ => ⟨[], rfl, List.nodup_nil, rfl⟩
  | k :: ks, h => by
    simp only [keysOk, Bool.and_eq_true, List.all_eq_true, Bool.not_eq_true'] at h
    obtain ⟨x, hx⟩ := isKey_some h.1.1
    obtain ⟨kk, e, nd, hl⟩ := keys_of h.2
    refine ⟨x :: kk, by simp [hx, e], List.nodup_cons.mpr ⟨fun hm => ?_, nd⟩, by simp [hl]⟩
    have : some x ∈ ks.map keyD := by rw [e]; exact List.mem_map.mpr ⟨x, hm, rfl⟩
    obtain ⟨q, hq, eq⟩ := List.mem_map.mp this
    exact keq_inj hx eq (h.1.2 q hq) rfl
theorem merge_app : ∀ {more kvs : List (Key × V)}, ((kvs ++ more).map (·.1)).Nodup → mergeK kvs more = kvs ++ more
  | [], kvs, _ => by simp [mergeK]
  | p :: r, kvs, h => by
    have e : putK kvs p.1 p.2 = kvs ++ [p] := by
      unfold putK
      rw [if_neg]
      intro z
      rw [List.any_eq_true] at z
      obtain ⟨q, hq, e⟩ := z
      have e := of_decide_eq_true e
      rw [List.map_append, List.nodup_append] at h
      exact h.2.2 q.1 (List.mem_map.mpr ⟨q, hq, rfl⟩) p.1 (by simp) e
    show mergeK (putK kvs p.1 p.2) r = _
    rw [e, merge_app (by simpa using h)]
    simp
def PairsR (N : Names) (W : Wd) (ds : List D) (ps : List (V × V)) : Prop := ∃ ks us, pairsOf ds = some (ks, us) ∧ DVs N.toNm W ks (ps.map (·.1)) ∧ DVs N.toNm W us (ps.map (·.2))
/-- the pairs of a display -/
structure JP (N : Names) (X : Cx) (pos : Pos) (keys : List (Option Expr)) (vals : List Expr) (m : Env → Sto → Res (List D)) : Prop where
  run : ∀ E, Takes X E → ∃ trs, PPs X pos keys vals trs ∧ ∀ W s en σ H (Q : List (V × V) → Hp → Prop), RH N.toNm W s H → EnvOk N W en σ →
    Post N (PairsR N) (m en s) W Q (fun c d H => E c d σ H) → tPairs trs σ H Q
theorem jp_nil : JP N X pos [] [] (fun _ s => .ok [] s) := ⟨fun E tk => ⟨[], pps_nil, fun W s en σ H Q R eo p => p W H [] (Wd.Le.refl _) R ⟨[], [], rfl, .nil, .nil⟩⟩⟩
theorem jp_cons {k v : Expr} {ks : List (Option Expr)} {vs : List Expr} {mk mv : Env → Sto → Res D} {ms : Env → Sto → Res (List D)} (hk : JE N X k mk) (hv : JE N X v mv) (hr : JP N X pos ks vs ms) : JP N X pos (some k :: ks) (v :: vs) (mCons mk (mCons mv ms)) := by
  refine ⟨fun E tk => ?_⟩
  obtain ⟨trs, h1, h2⟩ := hr.run E tk
  refine ⟨_, pps_cons (hk.run E tk) (hv.run E tk) h1, fun W s en σ H Q R eo p => ?_⟩
  unfold mCons at p
  refine ⟨W, s, en, R, eo, (Post.bind (rel := DVr N) p).imp fun x H1 ⟨W1, s1, d1, l1, R1, dx, p1⟩ => ?_⟩
  have p1 : Post N _ ((mCons mv ms en s1).bind fun xs s2 => Res.ok (d1 :: xs) s2) W1 Q _ := p1
  have e : ((mCons mv ms en s1).bind fun xs s2 => Res.ok (d1 :: xs) s2) = (mv en s1).bind fun d2 s2 => (ms en s2).bind fun xs s3 => .ok (d1 :: d2 :: xs) s3 := by
    unfold mCons
    cases mv en s1 with
    | ok d s => show ((ms en s).bind _).bind _ = _; show _ = (ms en s).bind _; cases ms en s <;> rfl
    | exc c vs s => rfl
    | bad => rfl
  rw [e] at p1
  refine ⟨W1, s1, en, R1, eo.mono l1, (Post.bind (rel := DVr N) p1).imp fun y H2 ⟨W2, s2, d2, l2, R2, dy, p2⟩ => ?_⟩
  refine h2 W2 s2 en σ H2 _ R2 ((eo.mono l1).mono l2) ((Post.bind (rel := PairsR N) p2).imp fun ps H3 ⟨W3, s3, ds, l3, R3, ⟨ks, us, e, g1, g2⟩, p3⟩ => ?_)
  refine p3 W3 H3 _ (Wd.Le.refl _) R3 ⟨d1 :: ks, d2 :: us, by simp [pairsOf, e], .cons ((dx.mono l2).mono l3) g1, .cons (dy.mono l3) g2⟩
def mDct (ms : Env → Sto → Res (List D)) (en : Env) (s : Sto) : Res D := (ms en s).bind fun ds s1 => Res.opt (dctOf ds) s1
theorem keyV : ∀ {ks : List D} {kk : List Key} {vs : List V}, ks.map keyD = kk.map some → DVs N.toNm W ks vs → vs = kk.map kV
  | [], kk, vs, e, g => by
    cases kk with
    | nil => exact g
    | cons _ _ => cases e
  | k :: ks, kk, vs, e, g => by
    cases kk with
    | nil => cases e
    | cons x kk =>
      obtain ⟨v, r, rfl, dv, g⟩ := g
      simp only [List.map_cons, List.cons.injEq] at e
      rw [keyV e.2 g]
      rw [List.map_cons]
      congr 1
      cases k with
      | int i => simp only [keyD, Option.some.injEq] at e; rw [← e.1]; exact dv
      | str x => simp only [keyD, Option.some.injEq] at e; rw [← e.1]; exact dv
      | _ => simp [keyD] at e
theorem zip_back : ∀ {kk : List Key} {ps : List (V × V)}, ps.map (·.1) = kk.map kV → ps = (kk.zip (ps.map (·.2))).map fun kv => (kV kv.1, kv.2)
  | [], [], _ => rfl
  | [], _ :: _, e => by cases e
  | _ :: _, [], e => by cases e
  | k :: kk, p :: ps, e => by
    simp only [List.map_cons, List.cons.injEq] at e
    have ih := zip_back e.2
    simp only [List.map_cons, List.zip_cons_cons, List.cons.injEq]
    exact ⟨by rw [← e.1], ih⟩
theorem jn_dct0 : JN N X (.Dict [] [] pos) (fun _ s => .ok (.dct [] []) s) := by
  refine ⟨fun E tk => pe_dnewK.imp fun σ H Q ⟨W, s, en, R, eo, p⟩ => fun q hq => ?_⟩
  obtain ⟨f1, f2⟩ := R.fresh hq
  exact p W _ _ (Wd.Le.refl _) (R.upd hq) ⟨q, _, .dct [] [], rfl, rfl, upd_same, f1, f2, [], .inl ⟨[], rfl, rfl, rfl⟩, .nil⟩
theorem jn_dct {keys : List (Option Expr)} {vals : List Expr} {ms : Env → Sto → Res (List D)} (h : JP N X pos keys vals ms) (hall : keys.all (·.isSome) = true) (hl : keys.length = vals.length) (h0 : keys ≠ []) (h15 : keys.length ≤ 15) : JN N X (.Dict keys vals pos) (mDct ms) := by
  refine ⟨fun E tk => ?_⟩
  obtain ⟨trs, h1, h2⟩ := h.run E tk
  refine (pe_disp h1 hall hl h0 h15).imp fun σ H Q ⟨W, s, en, R, eo, p⟩ => fun L hL => ?_
  obtain ⟨f1, f2, f3⟩ := R.fresh hL
  refine h2 (W.own L (some (.dK []))) s en σ _ _ (R.own f1 f2) (eo.mono (Wd.own_le f3)) ?_
  unfold mDct at p
  cases hm : ms en s with
  | ok ds s1 =>
    rw [hm] at p
    have p : PostN N (Res.opt (dctOf ds) s1) W Q (fun c d H => E c d σ H) := p
    intro W1 H1 ps l1 R1 ⟨ks, us, e, g1, g2⟩
    have hp := l1.pv _ _ (Wd.own_at (W := W) (p := L) (o := some (.dK [])))
    obtain ⟨d1, d2⟩ := R1.dp _ _ hp
    unfold dctOf at p
    rw [e] at p
    have p : PostN N (Res.opt (if keysOk ks && decide (ks.length ≤ 15) then some (.dct ks us) else none) s1) W Q (fun c d H => E c d σ H) := p
    by_cases hk : (keysOk ks && decide (ks.length ≤ 15)) = true
    · rw [if_pos hk] at p
      simp only [Bool.and_eq_true, decide_eq_true_eq] at hk
      obtain ⟨kk, e1, nd, hlk⟩ := keys_of hk.1
      have ev := keyV e1 g1
      have hle : kk.length = (ps.map (·.2)).length := by rw [hlk, g1.length, List.length_map, List.length_map]
      have ep : ps = (kk.zip (ps.map (·.2))).map fun kv => (kV kv.1, kv.2) := zip_back ev
      refine ⟨R1.pv _ _ hp, kk.zip (ps.map (·.2)), ep, by rw [List.length_zip, ← hle, Nat.min_self, hlk]; exact hk.2, ?_⟩
      have em : mergeK [] (kk.zip (ps.map (·.2))) = kk.zip (ps.map (·.2)) := merge_app (kvs := []) (by
        rw [List.nil_append, List.map_fst_zip (by omega)]
        exact nd)
      rw [em]
      have le : W.Le ((W1.own L (some (.dK (kk.zip (ps.map (·.2)))))).own L none) := ⟨⟨l1.fz, l1.rho⟩, fun a o z => by
        have ne : ¬ a = L := fun y => by rw [y, f3] at z; cases z
        show (if a = L then none else if a = L then _ else W1.pv a) = some o
        rw [if_neg ne, if_neg ne]
        exact (Wd.Le.trans (Wd.own_le f3) l1).pv a o z⟩
      refine p _ _ (.ref L) le ((R1.own d1 d2).disown) ⟨L, _, .dct ks us, rfl, rfl, upd_same, d1, ⟨d2, Wd.own_at⟩, ps.map (·.2), .inl ⟨kk, e1, rfl, hle⟩, (g2.mono0 Wd.own_lo).mono0 Wd.own_lo⟩
    · rw [if_neg hk] at p; exact p.elim
  | exc c vs s1 =>
    rw [hm] at p
    intro W1 H1 cls d l1 R1 x
    exact p W1 H1 cls d ((Wd.own_le f3).trans l1) R1 x
  | bad => rw [hm] at p; exact p.elim
end
end Zd

/-! Zd: statements. -/
namespace Zd
open PySem PySem.Spec PyProof.Rows L2
section
variable {N : Names} {X : Cx} {W : Wd} {s : Sto} {H : Hp} {a b c e o : Expr} {es : List Expr} {pos : Pos} {M : Sem}
/-! ### a new object becomes a cell -/
def mMk (m : Env → Sto → Res D) (en : Env) (s : Sto) : Res D := (m en s).bind fun d s1 => match d.cell with
  | some c => .ok (.loc s1.size) (s1.new c)
  | none => .bad
theorem je_mk {m : Env → Sto → Res D} (h : JN N X e m) : JE N X e (mMk m) := by
  refine ⟨fun E tk => (h.run E tk).imp fun σ H Q ⟨W, s, en, R, eo, p⟩ => ⟨W, s, en, R, eo, ?_⟩⟩
  unfold mMk at p
  cases hm : m en s with
  | ok d s1 =>
    rw [hm] at p
    intro W1 H1 v l R1 ⟨q, u, c, ev, hc, hq, f1, f2, k⟩
    have p : Post N (DVr N) (match d.cell with
      | some c => Res.ok (Zd.D.loc s1.size) (s1.new c)
      | none => .bad) W Q _ := p
    rw [hc] at p
    subst ev
    exact p (W1.cel s1.size q) H1 (.ref q) (l.trans R1.cel_le) (R1.new hq f1 f2 k) ⟨q, rfl, Wd.cel_at⟩
  | exc c vs s1 => rw [hm] at p; exact p
  | bad => rw [hm] at p; exact p
/-! ### statements -/
def PostS (N : Names) (r : RS) (W : Wd) (D : Ends) (E : WX) : Prop := match r with
  | .ok .next en s => ∀ W' H' σ', W.Le W' → RH N.toNm W' s H' → EnvOk N W' en σ' → D.nx σ' H'
  | .ok .brk en s => ∀ W' H' σ', W.Le W' → RH N.toNm W' s H' → EnvOk N W' en σ' → D.bk σ' H'
  | .ok .cont en s => ∀ W' H' σ', W.Le W' → RH N.toNm W' s H' → EnvOk N W' en σ' → D.ct σ' H'
  | .ok (.ret d) en s => ∀ W' H' v, W.Le W' → RH N.toNm W' s H' → DV N.toNm W' d v → D.rt v H'
  | .exc c vs en s => ∀ W' H' σ' cls d, W.Le W' → RH N.toNm W' s H' → EnvOk N W' en σ' → XcOk N W' c vs cls d H' → E cls d σ' H'
  | .bad => False
def RdS (N : Names) (m : Env → Sto → RS) (E : WX) : TS := fun D σ H => ∃ W s en, RH N.toNm W s H ∧ EnvOk N W en σ ∧ PostS N (m en s) W D E
structure JS (N : Names) (X : Cx) (st : Stmt) (m : Env → Sto → RS) : Prop where
  run : ∀ E, Takes X E → PS X st (RdS N m E)
structure JSs (N : Names) (X : Cx) (sts : List Stmt) (m : Env → Sto → RS) : Prop where
  run : ∀ E, Takes X E → PSs X sts (RdS N m E)
theorem _root_.L2.PS.imp {X : Cx} {st : Stmt} {t t' : TS} (h : PS X st t) (k : ∀ D σ H, t' D σ H → t D σ H) : PS X st t' := ⟨fun pins s σ H D I q => h.run pins s σ H D I (k D σ H q)⟩
theorem _root_.L2.PSs.imp {X : Cx} {st : List Stmt} {t t' : TS} (h : PSs X st t) (k : ∀ D σ H, t' D σ H → t D σ H) : PSs X st t' := ⟨fun pins s σ H D I q => h.run pins s σ H D I (k D σ H q)⟩
theorem PostS.mono {r : RS} {W W' : Wd} {D : Ends} {E : WX} (l : W.Le W') (h : PostS N r W D E) : PostS N r W' D E := by
  cases r with
  | ok f en s => cases f <;> exact fun W2 H2 v l2 => h W2 H2 v (l.trans l2)
  | exc c vs en s => exact fun W2 H2 v cls d l2 => h W2 H2 v cls d (l.trans l2)
  | bad => exact h
/-- an expression's end, then the rest of the statement -/
theorem PostS.of {α β : Type} {rel : Wd → α → β → Prop} {r : Res α} {k : α → Sto → RS} {en : Env} {σ : L2.St} {D : Ends} {E : WX} (eo : EnvOk N W en σ) (h : PostS N (r.st en k) W D E) :
    Post N rel r W (fun v H1 => ∃ W1 s1 a, W.Le W1 ∧ RH N.toNm W1 s1 H1 ∧ rel W1 a v ∧ PostS N (k a s1) W1 D E) (fun c d H => E c d σ H) := by
  cases r with
  | ok a s => exact fun W1 H1 v l R r1 => ⟨W1, s, a, l, R, r1, PostS.mono l h⟩
  | exc c vs s => exact fun W1 H1 cls d l R x => h W1 H1 σ cls d l R (eo.mono l) x
  | bad => exact h
theorem js_nil : JSs N X [] (fun en s => .ok .next en s) := ⟨fun E tk => pss_nil.imp fun D σ H ⟨W, s, en, R, eo, p⟩ => p W H σ (Wd.Le.refl _) R eo⟩
def mSeq (m1 m2 : Env → Sto → RS) (en : Env) (s : Sto) : RS := (m1 en s).bind fun en2 s2 => m2 en2 s2
theorem PostS.bind {r : RS} {k : Env → Sto → RS} {D : Ends} {E : WX} (h : PostS N (r.bind k) W D E) : PostS N r W { D with nx := RdS N k E D } E := by
  cases r with
  | ok f en s =>
    cases f with
    | next => exact fun W1 H1 σ1 l R eo => ⟨W1, s, en, R, eo, PostS.mono l h⟩
    | brk => exact h
    | cont => exact h
    | ret d => exact h
  | exc c vs en s => exact h
  | bad => exact h
theorem js_cons {st : Stmt} {rest : List Stmt} {m1 m2 : Env → Sto → RS} (h1 : JS N X st m1) (h2 : JSs N X rest m2) : JSs N X (st :: rest) (mSeq m1 m2) :=
  ⟨fun E tk => (pss_cons (h1.run E tk) (h2.run E tk)).imp fun D σ H ⟨W, s, en, R, eo, p⟩ => ⟨W, s, en, R, eo, p.bind⟩⟩
theorem js_pass : JS N X (.Pass pos) (fun en s => .ok .next en s) := ⟨fun E tk => ps_pass.imp fun D σ H ⟨W, s, en, R, eo, p⟩ => p W H σ (Wd.Le.refl _) R eo⟩
theorem js_doc {x j pos'} : JS N X (.Expr (.Constant (.str x) j pos) pos') (fun en s => .ok .next en s) := ⟨fun E tk => ps_doc.imp fun D σ H ⟨W, s, en, R, eo, p⟩ => p W H σ (Wd.Le.refl _) R eo⟩
theorem js_brk : JS N X (.Break pos) (fun en s => .ok .brk en s) := ⟨fun E tk => ps_break.imp fun D σ H ⟨W, s, en, R, eo, p⟩ => p W H σ (Wd.Le.refl _) R eo⟩
theorem js_cont : JS N X (.Continue pos) (fun en s => .ok .cont en s) := ⟨fun E tk => ps_continue.imp fun D σ H ⟨W, s, en, R, eo, p⟩ => p W H σ (Wd.Le.refl _) R eo⟩
def mExpr (m : Env → Sto → Res D) (en : Env) (s : Sto) : RS := (m en s).st en fun _ s1 => .ok .next en s1
theorem js_expr {m : Env → Sto → Res D} (he : JE N X e m) (hs : swapsWith e none pos.line X.env = pure false) : JS N X (.Expr e pos) (mExpr m) :=
  ⟨fun E tk => (ps_expr (he.run E tk) hs).imp fun D σ H ⟨W, s, en, R, eo, p⟩ => ⟨W, s, en, R, eo, (PostS.of (rel := DVr N) eo p).imp fun v H1 ⟨W1, s1, x, l1, R1, dx, p1⟩ => p1 W1 H1 σ (Wd.Le.refl _) R1 (eo.mono l1)⟩⟩
def mRet (m : Env → Sto → Res D) (en : Env) (s : Sto) : RS := (m en s).st en fun d s1 => .ok (.ret d) en s1
theorem js_ret {m : Env → Sto → Res D} (he : JE N X e m) : JS N X (.Return (some e) pos) (mRet m) :=
  ⟨fun E tk => (ps_ret (he.run E tk)).imp fun D σ H ⟨W, s, en, R, eo, p⟩ => ⟨W, s, en, R, eo, (PostS.of (rel := DVr N) eo p).imp fun v H1 ⟨W1, s1, x, l1, R1, dx, p1⟩ => p1 W1 H1 v (Wd.Le.refl _) R1 dx⟩⟩
theorem js_retN : JS N X (.Return none pos) (fun en s => .ok (.ret .non) en s) := ⟨fun E tk => ps_retN.imp fun D σ H ⟨W, s, en, R, eo, p⟩ => p W H .non (Wd.Le.refl _) R (by simp [DV])⟩
def mIf (c : Env → Sto → Res Bool) (m1 m2 : Env → Sto → RS) (en : Env) (s : Sto) : RS := (c en s).st en fun k s1 => if k then m1 en s1 else m2 en s1
theorem js_if {p q : List Stmt} {mc : Env → Sto → Res Bool} {m1 m2 : Env → Sto → RS} (hc : JT N X c mc) (h1 : JSs N X p m1) (h2 : JSs N X q m2) : JS N X (.If c p q pos) (mIf mc m1 m2) := by
  refine ⟨fun E tk => (ps_if (hc.run E tk) (h1.run E tk) (h2.run E tk)).imp fun D σ H ⟨W, s, en, R, eo, p⟩ => ⟨W, s, en, R, eo, (PostS.of (rel := fun _ (a b : Bool) => a = b) eo p).imp fun k H1 ⟨W1, s1, x, l1, R1, dx, p1⟩ => ?_⟩⟩
  subst dx
  cases x with
  | true => exact ⟨W1, s1, en, R1, eo.mono l1, p1⟩
  | false => exact ⟨W1, s1, en, R1, eo.mono l1, p1⟩
/-! ### stores -/
def mAsg (t : Tg) (m : Env → Sto → Res D) (en : Env) (s : Sto) : RS := (m en s).st en fun d s1 => match t.bind d en with
  | some en2 => .ok .next en2 s1
  | none => .bad
theorem rd_asg {K : PySem.W.Frag} {t : Tg} {m : Env → Sto → Res D} {E : WX} {D : Ends} {σ : L2.St} (h : RdS N (mAsg t m) E D σ H) : tAsg (Rd N m E) (t.g K) D σ H := by
  obtain ⟨W, s, en, R, eo, p⟩ := h
  refine ⟨W, s, en, R, eo, (PostS.of (rel := DVr N) eo p).imp fun v H1 ⟨W1, s1, x, l1, R1, dx, p1⟩ => ?_⟩
  cases hb : t.bind x en with
  | none => rw [hb] at p1; exact p1.elim
  | some en2 =>
    rw [hb] at p1
    exact g_ok R1 (eo.mono l1) dx hb fun σ2 eo2 _ => p1 W1 H1 σ2 (Wd.Le.refl _) R1 eo2
theorem js_set {i : Nat} {x : Str} {m : Env → Sto → Res D} {p' : Pos} (hN : X.N.Nodup) (hi : X.N[i]? = some x) (hx : Loc X.env.scope x) (he : JE N X e m) (hs : swapsWith e (some (.Name x p')) pos.line X.env = pure false) (hf : X.fn x = true ∨ X.env.scope.names.lookup x = some .local) :
    JS N X (.Assign [.Name x p'] e pos) (mAsg (.nm i) m) := ⟨fun E tk => (ps_set hN hi hx (he.run E tk) hs hf).imp fun D σ H h => rd_asg (K := X.K) (t := .nm i) h⟩
theorem js_asg {tg : Expr} {t : Tg} {m : Env → Sto → Res D} (he : JE N X e m) (hg : PG X tg (t.g X.K)) (hs : swapsWithSole [tg] e pos.line X.env = pure false) (hw : swappedStores [tg] e X.env = pure none) (h1 : (assignEach [tg] X.env).map (·.2) = [assign tg X.env]) :
    JS N X (.Assign [tg] e pos) (mAsg t m) := ⟨fun E tk => (ps_asg (he.run E tk) hg hs hw h1).imp fun D σ H h => rd_asg (t := t) h⟩
/-- a, b = x, y -/
theorem js_par {i j : Nat} {x y : Str} {px py pt : Pos} {kt k2 pt2} {ms : Env → Sto → Res (List D)} (hc : X.calm = true) (hN : X.N.Nodup) (hi : X.N[i]? = some x) (hj : X.N[j]? = some y) (hij : i ≠ j) (hx : X.env.scope.names.lookup x = some .local) (hy : X.env.scope.names.lookup y = some .local)
    (ha : JA N X [a, b] ms) (hw : swappedStores [.Tuple [.Name x px, .Name y py] kt pt] (.Tuple [a, b] k2 pt2) X.env = pure (some [x, y])) (hs : swapsWithSole [.Tuple [.Name x px, .Name y py] kt pt] (.Tuple [a, b] k2 pt2) pos.line X.env = pure false) :
    JS N X (.Assign [.Tuple [.Name x px, .Name y py] kt pt] (.Tuple [a, b] k2 pt2) pos) (mAsg (.tp [i, j]) (mTup ms)) := by
  refine ⟨fun E tk => (ps_par hc hN hi hj hij hx hy (ha.run E tk) hw hs).imp fun D σ H ⟨W, s, en, R, eo, p⟩ => ⟨W, s, en, R, eo, ?_⟩⟩
  unfold mAsg mTup at p
  cases hm : ms en s with
  | ok ds s1 =>
    rw [hm] at p
    intro W1 H1 vs l R1 g
    have p : PostS N (Res.st (if ds.length ≤ lim then Res.ok (Zd.D.tup ds) s1 else .bad) en fun d s1 => match Tg.bind (.tp [i, j]) d en with
      | some en2 => .ok .next en2 s1
      | none => .bad) W D E := p
    by_cases hl : ds.length ≤ lim
    · rw [if_pos hl] at p
      have p : PostS N (match (if ds.length = 2 then some (([i, j].zip ds).foldl (fun e p => e.set p.1 (some p.2)) en) else none) with
        | some en2 => RS.ok .next en2 s1
        | none => .bad) W D E := p
      by_cases h2 : ds.length = 2
      · rw [if_pos h2] at p
        match ds, h2 with
        | [d1, d2], _ =>
          obtain ⟨v, w, rfl, dv, dw⟩ := g.two
          exact ⟨v, w, rfl, p W1 H1 _ l R1 (((eo.mono l).set dv).set dw)⟩
      · rw [if_neg h2] at p; exact p.elim
    · rw [if_neg hl] at p; exact p.elim
  | exc c vs s1 => rw [hm] at p; exact fun W1 H1 cls d l R1 x => p W1 H1 σ cls d l R1 (eo.mono l) x
  | bad => rw [hm] at p; exact p
theorem js_par3 {i j l : Nat} {x y z : Str} {px py pz pt : Pos} {kt k2 pt2} {ms : Env → Sto → Res (List D)} (hc : X.calm = true) (hN : X.N.Nodup) (hi : X.N[i]? = some x) (hj : X.N[j]? = some y) (hl : X.N[l]? = some z) (hij : i ≠ j) (hil : i ≠ l) (hjl : j ≠ l)
    (hx : X.env.scope.names.lookup x = some .local) (hy : X.env.scope.names.lookup y = some .local) (hz : X.env.scope.names.lookup z = some .local)
    (ha : JA N X [a, b, c] ms) (hw : swappedStores [.Tuple [.Name x px, .Name y py, .Name z pz] kt pt] (.Tuple [a, b, c] k2 pt2) X.env = pure (some [x, y, z])) (hs : swapsWithSole [.Tuple [.Name x px, .Name y py, .Name z pz] kt pt] (.Tuple [a, b, c] k2 pt2) pos.line X.env = pure false) :
    JS N X (.Assign [.Tuple [.Name x px, .Name y py, .Name z pz] kt pt] (.Tuple [a, b, c] k2 pt2) pos) (mAsg (.tp [i, j, l]) (mTup ms)) := by
  refine ⟨fun E tk => (ps_par3 hc hN hi hj hl hij hil hjl hx hy hz (ha.run E tk) hw hs).imp fun D σ H ⟨W, s, en, R, eo, p⟩ => ⟨W, s, en, R, eo, ?_⟩⟩
  unfold mAsg mTup at p
  cases hm : ms en s with
  | ok ds s1 =>
    rw [hm] at p
    intro W1 H1 vs l1 R1 g
    have p : PostS N (Res.st (if ds.length ≤ lim then Res.ok (Zd.D.tup ds) s1 else .bad) en fun d s1 => match Tg.bind (.tp [i, j, l]) d en with
      | some en2 => .ok .next en2 s1
      | none => .bad) W D E := p
    by_cases hl : ds.length ≤ lim
    · rw [if_pos hl] at p
      have p : PostS N (match (if ds.length = 3 then some (([i, j, l].zip ds).foldl (fun e p => e.set p.1 (some p.2)) en) else none) with
        | some en2 => RS.ok .next en2 s1
        | none => .bad) W D E := p
      by_cases h2 : ds.length = 3
      · rw [if_pos h2] at p
        match ds, h2 with
        | [d1, d2, d3], _ =>
          obtain ⟨u, r, rfl, du, g⟩ := g
          obtain ⟨v, w, rfl, dv, dw⟩ := DVs.two g
          exact ⟨u, v, w, rfl, p W1 H1 _ l1 R1 ((((eo.mono l1).set du).set dv).set dw)⟩
      · rw [if_neg h2] at p; exact p.elim
    · rw [if_neg hl] at p; exact p.elim
  | exc c vs s1 => rw [hm] at p; exact fun W1 H1 cls d l R1 x => p W1 H1 σ cls d l R1 (eo.mono l) x
  | bad => rw [hm] at p; exact p
/-- name = [..] -/
theorem js_setLc {elt tg iter : Expr} {ifs : List Expr} {scope : Scope} {own : List (Str × Nat)} {mi : Env → Sto → Res (List D)} {mc : Env → Sto → Res Bool} {me : Env → Sto → Res D} {t : Tg} {i : Nat} {y : Str} {py spos : Pos}
    (hc : X.calm = true) (hN : X.N.Nodup) (hy : X.N[i]? = some y) (hyl : X.env.scope.names.lookup y = some .local) (hsw : swapsWith (.ListComp elt [⟨tg, iter, ifs, 0⟩] scope pos) (some (.Name y py)) spos.line X.env = pure true) (hi : JI N X tg iter mi) (ok : BlkOk X.N X.env.scope scope own)
    (hg : ∀ (s : Shared) (H : Hp) (C : Addr) (cl : List (Str × Addr)) (fp : List Addr), PG (X.blk s H scope (compEnvC scope cl C X.env) fp) tg (t.g X.K)) (ht : ∀ (s : Shared) (H : Hp) (C : Addr) (cl : List (Str × Addr)) (fp : List Addr), JC N (X.blk s H scope (compEnvC scope cl C X.env) fp) ifs mc)
    (he : ∀ (s : Shared) (H : Hp) (C : Addr) (cl : List (Str × Addr)) (fp : List Addr), JE N (X.blk s H scope (compEnvC scope cl C X.env) fp) elt me) (hs : ∀ x, foldedSetIterable iter X.env x = pure x) (hsub : ∀ i ∈ t.is, i ∈ own.map (·.2)) :
    JS N X (.Assign [.Name y py] (.ListComp elt [⟨tg, iter, ifs, 0⟩] scope pos) spos) (mAsg (.nm i) (mMk (mComp (own.map (·.2)) t mi mc me))) := by
  refine ⟨fun E tk => (ps_setLc hc hN hy hyl hsw (hi.run E tk) ok hg (fun s H C cl fp => (ht s H C cl fp).run NoX takes_no) (fun s H C cl fp => (he s H C cl fp).run NoX takes_no) hs).imp fun D σ H h => ?_⟩
  have h := rd_asg (K := X.K) (t := .nm i) h
  obtain ⟨W, s, en, R, eo, p⟩ := h
  refine rd_comp hsub ⟨W, s, en, R, eo, ?_⟩
  have p : Post N (DVr N) (mMk (mComp (own.map (·.2)) t mi mc me) en s) W (fun x H1 => gName i x σ H1 D.nx) (fun c d H => E c d σ H) := p
  unfold mMk at p
  cases hm : mComp (own.map (·.2)) t mi mc me en s with
  | ok d s1 =>
    rw [hm] at p
    intro W1 H1 v l R1 ⟨q, u, c, ev, hc, hq, f1, f2, k⟩
    have p : Post N (DVr N) (match d.cell with
      | some c => Res.ok (Zd.D.loc s1.size) (s1.new c)
      | none => .bad) W _ _ := p
    rw [hc] at p
    subst ev
    exact p (W1.cel s1.size q) H1 (.ref q) (l.trans R1.cel_le) (R1.new hq f1 f2 k) ⟨q, rfl, Wd.cel_at⟩
  | exc c vs s1 => rw [hm] at p; exact p
  | bad => rw [hm] at p; exact p
theorem js_setLcF {elt tg iter : Expr} {ifs : List Expr} {scope : Scope} {own : List (Str × Nat)} {mi : Env → Sto → Res (List D)} {mc : Env → Sto → Res Bool} {me : Env → Sto → Res D} {t : Tg} {i : Nat} {y : Str} {py spos : Pos}
    (hc : X.calm = true) (hN : X.N.Nodup) (hy : X.N[i]? = some y) (hyl : X.env.scope.names.lookup y = some .local) (hsw : swapsWith (.ListComp elt [⟨tg, iter, ifs, 0⟩] scope pos) (some (.Name y py)) spos.line X.env = pure true) (hi : JI N X tg iter mi) (ok : BlkOk X.N X.env.scope scope own)
    (hg : ∀ (s : Shared) (H : Hp) (C : Addr) (cl : List (Str × Addr)) (fp : List Addr), PG (X.blk s H scope (compEnvC scope cl C X.env) fp) tg (t.g X.K)) (ht : ∀ (s : Shared) (H : Hp) (C : Addr) (cl : List (Str × Addr)) (fp : List Addr), JC N (X.blk s H scope (compEnvC scope cl C X.env) fp) ifs mc)
    (he : ∀ (s : Shared) (H : Hp) (C : Addr) (cl : List (Str × Addr)) (fp : List Addr), JE N (X.blk s H scope (compEnvC scope cl C X.env) fp) elt me) (hs : ∀ x, foldedSetIterable iter X.env x = pure x) (hsub : ∀ i ∈ t.is, i ∈ own.map (·.2)) :
    JS N X (.Assign [.Name y py] (.ListComp elt [⟨tg, iter, ifs, 0⟩] scope pos) spos) (mAsg (.nm i) (mComp (own.map (·.2)) t mi mc me)) := by
  refine ⟨fun E tk => (ps_setLc hc hN hy hyl hsw (hi.run E tk) ok hg (fun s H C cl fp => (ht s H C cl fp).run NoX takes_no) (fun s H C cl fp => (he s H C cl fp).run NoX takes_no) hs).imp fun D σ H h => ?_⟩
  obtain ⟨W, s, en, R, eo, p⟩ := rd_asg (K := X.K) (t := .nm i) h
  have p : Post N (DVr N) (mComp (own.map (·.2)) t mi mc me en s) W (fun x H1 => gName i x σ H1 D.nx) (fun c d H => E c d σ H) := p
  exact rd_comp hsub ⟨W, s, en, R, eo, p.toN⟩
/-- o[i] = v -/
def mPut (g : D → D → D → Sto → Option Sto) (mo mi me : Env → Sto → Res D) (en : Env) (s : Sto) : RS := (me en s).st en fun v s1 => (mo en s1).st en fun x s2 => (mi en s2).st en fun y s3 => match g x y v s3 with
  | some s4 => .ok .next en s4
  | none => .bad
/-- a store by values -/
def rPut (N : Names) (g : D → D → D → Sto → Option Sto) : V → V → V → Hp → (Hp → Prop) → Prop := fun o i v H Q => ∃ W s x y z s', RH N.toNm W s H ∧ DV N.toNm W x o ∧ DV N.toNm W y i ∧ DV N.toNm W z v ∧ g x y z s = some s' ∧ ∀ W' H', W.Le W' → RH N.toNm W' s' H' → Q H'
theorem js_put {i : Expr} {g : D → D → D → Sto → Option Sto} {mo mi me : Env → Sto → Res D} {p' : Pos} (hp : PSet X (rPut N g)) (ho : JE N X o mo) (hi : JE N X i mi) (he : JE N X e me)
    (ha : ∀ v, assign (.Subscript o i p') X.env v = (do
      let ov ← holding [v] (eval o X.env)
      let iv ← holding [v, ov] (eval i X.env)
      standAt p'
      holding [v, ov, iv] (setItem ov iv v)
      release [v, ov, iv] []))
    (hs : swapsWithSole [.Subscript o i p'] e pos.line X.env = pure false) (hw : swappedStores [.Subscript o i p'] e X.env = pure none) (h1 : (assignEach [.Subscript o i p'] X.env).map (·.2) = [assign (.Subscript o i p') X.env]) :
    JS N X (.Assign [.Subscript o i p'] e pos) (mPut g mo mi me) := by
  refine ⟨fun E tk => (ps_asg (he.run E tk) (pg_sub (ho.run E tk) (hi.run E tk) hp ha) hs hw h1).imp fun D σ H ⟨W, s, en, R, eo, p⟩ => ⟨W, s, en, R, eo, (PostS.of (rel := DVr N) eo p).imp fun v H1 ⟨W1, s1, dv, l1, R1, hv, p1⟩ => ?_⟩⟩
  refine ⟨W1, s1, en, R1, eo.mono l1, (PostS.of (rel := DVr N) (eo.mono l1) p1).imp fun ov H2 ⟨W2, s2, dx, l2, R2, hx, p2⟩ => ?_⟩
  refine ⟨W2, s2, en, R2, (eo.mono l1).mono l2, (PostS.of (rel := DVr N) ((eo.mono l1).mono l2) p2).imp fun iv H3 ⟨W3, s3, dy, l3, R3, hy, p3⟩ => ?_⟩
  cases hg : g dx dy dv s3 with
  | none => rw [hg] at p3; exact p3.elim
  | some s4 =>
    rw [hg] at p3
    exact ⟨W3, s3, dx, dy, dv, s4, R3, hx.mono l3, hy, (hv.mono l2).mono l3, hg, fun W4 H4 l4 R4 => p3 W4 H4 σ l4 R4 ((((eo.mono l1).mono l2).mono l3).mono l4)⟩
theorem put_lst : PSet X (rPut N D.setI) := by
  intro pins t σ H o i v ov iv u Q I ro ri rv h
  obtain ⟨W, s, x, y, z, s', R, hx, hy, hz, hg, q⟩ := h
  cases x with
  | loc n =>
    simp only [D.setI] at hg
    cases hc : s.get n with
    | none => rw [hc] at hg; cases hg
    | some c =>
      rw [hc] at hg
      cases c with
      | lst ds =>
        cases y with
        | int k =>
          have hg : (at? ds.length k).map (fun j => s.put n (.lst (ds.set j z))) = some s' := hg
          cases hj : at? ds.length k with
          | none => rw [hj] at hg; cases hg
          | some j =>
            rw [hj] at hg
            cases hg
            obtain ⟨p, rfl, hp⟩ := hx
            obtain ⟨p', w, e1, e2, vs, e3, g⟩ := R.take hc
            rw [hp] at e1
            cases e1; cases e3; cases hy
            refine set_list pins t σ H _ _ _ ov iv u Q I ro ri rv ⟨p, vs, k, j, rfl, rfl, e2, by rw [← g.length]; exact hj, q W _ (Wd.Le.refl _) (R.put hp (by rw [hc]; intro z; cases z) ⟨_, rfl, g.set hz j⟩)⟩
        | _ => cases hg
      | _ => cases hg
  | _ => cases hg
/-- a cell is let go -/
def mFrz (i : Nat) (en : Env) (s : Sto) : RS := match en[i]? with
    | some (some (.loc n)) => match s.get n with
      | some c => if c.live then .ok .next (en.set i (some c.d)) (s.put n .dead) else .bad
      | none => .bad
    | _ => .bad
theorem cell_dv {c : Cell} {p : Addr} {o : HO} (k : CellOk N.toNm W (some o) c) (hf : W.fz p = some o) (hl : c.live = true) : DV N.toNm W c.d (.ref p) := by
  cases c with
  | lst ds => obtain ⟨vs, e, g⟩ := k; cases e; exact ⟨p, vs, rfl, hf, g⟩
  | dct ks ds => obtain ⟨us, f, g⟩ := k; exact ⟨p, us, rfl, by rw [hf]; exact f, g⟩
  | ins c fs ds => obtain ⟨dx, us, e, f, g⟩ := k; cases e; exact ⟨p, dx, us, rfl, hf, f, g⟩
  | dead => cases hl
theorem js_frz {sts : List Stmt} {i : Nat} {m : Env → Sto → RS} (h : JSs N X sts m) : JSs N X sts (mSeq (mFrz i) m) := by
  refine ⟨fun E tk => (h.run E tk).imp fun D σ H ⟨W, s, en, R, eo, p⟩ => ?_⟩
  unfold mSeq mFrz at p
  cases h1 : en[i]? with
  | none => rw [h1] at p; exact p.elim
  | some o =>
    cases o with
    | none => rw [h1] at p; exact p.elim
    | some d =>
      rw [h1] at p
      cases d with
      | loc n =>
        cases h2 : s.get n with
        | none =>
          have p : PostS N (RS.bind (match s.get n with
            | some c => if c.live then .ok .next (en.set i (some c.d)) (s.put n .dead) else .bad
            | none => .bad) fun en2 s2 => m en2 s2) W D E := p
          rw [h2] at p; exact p.elim
        | some c =>
          have p : PostS N (RS.bind (match s.get n with
            | some c => if c.live then .ok .next (en.set i (some c.d)) (s.put n .dead) else .bad
            | none => .bad) fun en2 s2 => m en2 s2) W D E := p
          rw [h2] at p
          have p : PostS N (RS.bind (if c.live then .ok .next (en.set i (some c.d)) (s.put n .dead) else .bad) fun en2 s2 => m en2 s2) W D E := p
          by_cases hl : c.live = true
          · rw [if_pos hl] at p
            obtain ⟨v, hv, dv⟩ := eo.2 i _ h1
            obtain ⟨q, rfl, hq⟩ := dv
            obtain ⟨q', o, e1, e2, k⟩ := R.take h2
            rw [hq] at e1
            cases e1
            obtain ⟨le, R2⟩ := R.kill hq e2 (by rw [h2]; intro z; cases z; cases hl)
            refine ⟨W.frz q o, s.put n .dead, en.set i (some c.d), R2, ⟨by rw [List.length_set]; exact eo.1, fun j d' e => ?_⟩, PostS.mono le p⟩
            by_cases hj : i = j
            · subst hj
              rw [List.getElem?_set_self (List.getElem?_eq_some_iff.mp h1).1] at e
              cases e
              exact ⟨_, hv, cell_dv (k.mono le) Wd.frz_at hl⟩
            · rw [List.getElem?_set_ne hj] at e
              obtain ⟨v', a1, a2⟩ := eo.2 j d' e
              exact ⟨v', a1, a2.mono le⟩
          · rw [if_neg hl] at p; exact p.elim
      | _ => exact p.elim
end
end Zd

/-! Zd: loops. -/
namespace Zd
open PySem PySem.Spec PyProof.Rows L2
section
variable {N : Names} {X : Cx} {W : Wd} {s : Sto} {H : Hp} {a b c e o : Expr} {es : List Expr} {pos : Pos} {M : Sem}
def mFor (t : Tg) (mi : Env → Sto → Res (List D)) (mb : Env → Sto → RS) (en : Env) (s : Sto) : RS := (mi en s).st en fun ds s1 => forGo (fun d en2 s2 => match t.bind d en2 with
    | some en3 => mb en3 s2
    | none => .bad) ds en s1
theorem rd_for {K : PySem.W.Frag} {t : Tg} {mi : Env → Sto → Res (List D)} {mb : Env → Sto → RS} {E : WX} {Dn : Ends} {σ : L2.St} (h : RdS N (mFor t mi mb) E Dn σ H) : tFor (RdI N mi E) (t.g K) (RdS N mb E) Dn σ H := by
  obtain ⟨W, s, en, R, eo, p⟩ := h
  refine ⟨W, s, en, R, eo, (PostS.of (rel := IterOk N) eo p).imp fun J H1 ⟨W1, s1, ds, l1, R1, it, p1⟩ => ?_⟩
  generalize hf : (fun d en2 s2 => match t.bind d en2 with
    | some en3 => mb en3 s2
    | none => RS.bad) = f at p1
  refine ⟨fun i m σ H => m = ds.length - i ∧ ∃ W2 s2 en2, W1.Le W2 ∧ RH N.toNm W2 s2 H ∧ EnvOk N W2 en2 σ ∧ PostS N (forGo f (ds.drop i) en2 s2) W2 Dn E, ⟨_, rfl, W1, s1, en, Wd.Le.refl _, R1, eo.mono l1, by simpa using p1⟩, ?_⟩
  rintro i m σ2 H2 ⟨rfl, W2, s2, en2, l2, R2, eo2, p2⟩
  obtain ⟨go, stop⟩ := it W2 s2 H2 l2 R2 i
  cases hd : ds[i]? with
  | none =>
    have hl : ds.length ≤ i := by simpa using hd
    rw [List.drop_eq_nil_of_le hl] at p2
    exact .inl ⟨stop hl, p2 W2 H2 σ2 (Wd.Le.refl _) R2 eo2⟩
  | some d =>
    obtain ⟨go1, go2⟩ := go d hd
    have hi : i < ds.length := (List.getElem?_eq_some_iff.mp hd).1
    have hdr : ds.drop i = d :: ds.drop (i + 1) := by
      rw [List.drop_eq_getElem_cons hi]
      congr 1
      exact (List.getElem?_eq_some_iff.mp hd).2
    rw [hdr] at p2
    refine .inr ⟨go1, fun σ' H' => ∃ W3 s3 en3, W1.Le W3 ∧ RH N.toNm W3 s3 H' ∧ EnvOk N W3 en3 σ' ∧ PostS N (forGo f (ds.drop (i + 1)) en3 s3) W3 Dn E, fun σ' H' q => ⟨ds.length - (i + 1), by omega, rfl, q⟩, fun x H' y => ?_⟩
    obtain ⟨rfl, dv⟩ := go2 x H' y
    have ef : f d en2 s2 = (match t.bind d en2 with
      | some en3 => mb en3 s2
      | none => RS.bad) := by rw [← hf]
    unfold forGo at p2
    cases hb : t.bind d en2 with
    | none => rw [hb] at ef; rw [ef] at p2; exact p2.elim
    | some en3 =>
      rw [hb] at ef
      have ef : f d en2 s2 = mb en3 s2 := ef
      rw [ef] at p2
      refine g_ok R2 eo2 dv hb fun σ3 eo3 _ => ⟨W2, s2, en3, R2, eo3, ?_⟩
      cases hm : mb en3 s2 with
      | ok fl en4 s4 =>
        rw [hm] at p2
        cases fl with
        | next => exact fun W4 H4 σ4 l4 R4 eo4 => ⟨W4, s4, en4, l2.trans l4, R4, eo4, PostS.mono l4 p2⟩
        | cont => exact fun W4 H4 σ4 l4 R4 eo4 => ⟨W4, s4, en4, l2.trans l4, R4, eo4, PostS.mono l4 p2⟩
        | brk => exact p2
        | ret v => exact p2
      | exc c vs en4 s4 => rw [hm] at p2; exact p2
      | bad => rw [hm] at p2; exact p2
theorem js_for {tg iter : Expr} {body : List Stmt} {t : Tg} {mi : Env → Sto → Res (List D)} {mb : Env → Sto → RS} (hp : PassesOwn (model X.prog X.w) X.A X.env X.xe) (hc : X.calm = true) (hi : JI N X tg iter mi) (hg : PG X tg (t.g X.K)) (hb : JSs N X body mb) (hs : ∀ x, foldedSetIterable iter X.env x = pure x) :
    JS N X (.For tg iter body [] pos) (mFor t mi mb) := ⟨fun E tk => (ps_for hp hc (hi.run E tk) hg (hb.run E tk) hs).imp fun Dn σ H h => rd_for h⟩
def mWhile (n : Nat) (mc : Env → Sto → Res Bool) (mb : Env → Sto → RS) (en : Env) (s : Sto) : RS := whileGo mc mb n en s
theorem js_while {body : List Stmt} {n : Nat} {mc : Env → Sto → Res Bool} {mb : Env → Sto → RS} (hp : PassesOwn (model X.prog X.w) X.A X.env X.xe) (hc : JT N X c mc) (hb : JSs N X body mb) : JS N X (.While c body [] pos) (mWhile n mc mb) := by
  refine ⟨fun E tk => (ps_while hp (hc.run E tk) (hb.run E tk)).imp fun Dn σ H ⟨W, s, en, R, eo, p⟩ => ?_⟩
  refine ⟨fun m σ H => ∃ W s en, RH N.toNm W s H ∧ EnvOk N W en σ ∧ PostS N (whileGo mc mb m en s) W Dn E, ⟨n, W, s, en, R, eo, p⟩, ?_⟩
  rintro m σ H ⟨W, s, en, R, eo, p⟩
  cases m with
  | zero => exact p.elim
  | succ m =>
    unfold whileGo at p
    refine ⟨W, s, en, R, eo, (PostS.of (rel := fun _ (a b : Bool) => a = b) eo p).imp fun k H1 ⟨W1, s1, x, l1, R1, dx, p1⟩ => ?_⟩
    subst dx
    cases x with
    | false => exact p1 W1 H1 σ (Wd.Le.refl _) R1 (eo.mono l1)
    | true =>
      refine ⟨fun σ' H' => ∃ W s en, RH N.toNm W s H' ∧ EnvOk N W en σ' ∧ PostS N (whileGo mc mb m en s) W Dn E, fun σ' H' q => ⟨m, Nat.lt_succ_self _, q⟩, W1, s1, en, R1, eo.mono l1, ?_⟩
      cases hm : mb en s1 with
      | ok fl en4 s4 =>
        have p1 : PostS N (match mb en s1 with
          | .ok .next en2 s2 => whileGo mc mb m en2 s2
          | .ok .cont en2 s2 => whileGo mc mb m en2 s2
          | .ok .brk en2 s2 => .ok .next en2 s2
          | .ok (.ret v) en2 s2 => .ok (.ret v) en2 s2
          | .exc c vs en2 s2 => .exc c vs en2 s2
          | .bad => .bad) W1 Dn E := p1
        rw [hm] at p1
        cases fl with
        | next => exact fun W4 H4 σ4 l4 R4 eo4 => ⟨W4, s4, en4, R4, eo4, PostS.mono l4 p1⟩
        | cont => exact fun W4 H4 σ4 l4 R4 eo4 => ⟨W4, s4, en4, R4, eo4, PostS.mono l4 p1⟩
        | brk => exact p1
        | ret v => exact p1
      | exc c vs en4 s4 =>
        have p1 : PostS N (match mb en s1 with
          | .ok .next en2 s2 => whileGo mc mb m en2 s2
          | .ok .cont en2 s2 => whileGo mc mb m en2 s2
          | .ok .brk en2 s2 => .ok .next en2 s2
          | .ok (.ret v) en2 s2 => .ok (.ret v) en2 s2
          | .exc c vs en2 s2 => .exc c vs en2 s2
          | .bad => .bad) W1 Dn E := p1
        rw [hm] at p1; exact p1
      | bad =>
        have p1 : PostS N (match mb en s1 with
          | .ok .next en2 s2 => whileGo mc mb m en2 s2
          | .ok .cont en2 s2 => whileGo mc mb m en2 s2
          | .ok .brk en2 s2 => .ok .next en2 s2
          | .ok (.ret v) en2 s2 => .ok (.ret v) en2 s2
          | .exc c vs en2 s2 => .exc c vs en2 s2
          | .bad => .bad) W1 Dn E := p1
        rw [hm] at p1; exact p1
end
end Zd

/-! Zd: defs and their calls. -/
namespace Zd
open PySem PySem.Spec PyProof.Rows L2
/-- a def that is entered where no repr is under way -/
structure FnG (P : Program) (w : World) (K : PySem.W.Frag) (mg : Str → Option Value) (base : Heap) (k : Nat) (f : Addr) (fd : FuncData) (ps : List Str) (sp : Sp) : Prop where
  len : ∀ vs H Q E, sp vs H Q E → vs.length = ps.length
  run : ∀ (A : Around) (outer : List PySem.Env) (s : Shared) (H : Hp) (args : Args) (us : List Value) (vs : List V) (Q : VK) (E : XK), Room k A → A.guards = some [] → Env0 P w K mg base A outer s H → BindsTo s fd args (ps.zip us) → Vals vs us → sp vs H Q E →
    codeAny (model P w) A (.call (.ref f) args) (CR (L2.CX P w) outer P w H s Q E) s
section
variable {P : Program} {w : World} {K : PySem.W.Frag} {mg : Str → Option Value} {base : Heap} {x qual : Str} {params : Arguments} {body : List Stmt} {scope : Scope} {dvs : List V} {kws : List (Str × V)} {f : Addr} {fd : FuncData}
theorem gd_deeper {A : Around} {env : PySem.Env} (h : A.guards = some []) : (A.deeper env).guards = some [] := h
theorem FnG.mono {j k : Nat} {ps : List Str} {sp : Sp} (F : FnG P w K mg base j f fd ps sp) (h : j ≤ k) : FnG P w K mg base k f fd ps sp := ⟨F.len, fun A outer s H args us vs Q E hr => F.run A outer s H args us vs Q E (hr.mono h)⟩
/-- from the body's reading to the def -/
theorem FnG.make {N ps : List Str} {k : Nat} {sp : Sp} (F : FunD K x qual params body scope dvs kws f fd) (S : FnScope N ps scope) (len : ∀ vs H Q E, sp vs H Q E → vs.length = ps.length)
    (hb : ∀ (cdv : Value) (A : Around) (outer : List PySem.Env) (s : Shared) (H : Hp) (vs : List V) (Q : VK) (E : XK), Room k (A.deeper (envOfC qual scope s.heap.objs.size f cdv)) → (A.deeper (envOfC qual scope s.heap.objs.size f cdv)).guards = some [] → sp vs H Q E →
      ∃ t, PSs (cxOf (L2.CX P w) P w K mg base N qual scope f cdv A outer s H E) body t ∧ t { nx := fun _ H' => Q .non H', rt := Q } (L2.start N vs) H) : FnG P w K mg base (k + 1) f fd ps sp := by
  obtain ⟨oc, od, dV, kV, doc, pm, an, cdv, ct, osl, rfl, lk, hcd, _, _⟩ := F.ex
  refine ⟨len, fun A outer s H args us vs Q E hr hgd e0 hbn r hsp => ?_⟩
  have hl := len _ _ _ _ hsp
  have kin : K.In s.heap := e0.mod.kin.keeps fun b o e => (e0.bs b o e).1
  have nl : s.heap.NoLimit := e0.mod.nolimit.keeps fun b o e => (e0.bs b o e).1
  refine codeAny_call_function hr.depth (kin _ _ lk) rfl S.co S.gen rfl (PySem.W.codeRec_of kin hcd) (hbn _ _ _ _ (wpAny_newFunctionEnv_cells S.kind (fun y hy => ?_) fun env he s1 ent => ?_))
  · obtain ⟨n, v⟩ := y
    rcases S.par n (List.of_mem_zip hy).1 with q | q
    · exact .inl q
    · exact .inr ⟨q, PySem.W.cellsFrom_some _ _ _ (.inl q)⟩
  subst he
  refine ⟨nl.keeps ent.toInCall.keep, codeAny_func ?_⟩
  obtain ⟨t, ht, hq⟩ := hb cdv A outer s H vs Q E (hr.deeper _) (gd_deeper hgd) hsp
  have I := inv_start (CX := L2.CX P w) (E := E) S hr.hd e0 hl r ent
  refine wpAny_mono (ht.run [] s1 (L2.start N vs) H _ I hq) (fun fl s' hs => ?_) fun e s' hs => hs
  cases fl with
  | ret u => obtain ⟨v, σ', H', J, rv, q⟩ := hs; exact ⟨v, H', J.os, J.bare, J.base, J.hok, rv, q⟩
  | next => obtain ⟨σ', H', J, q⟩ := hs; exact ⟨V.non, H', J.os, J.bare, J.base, J.hok, (show Value.none = Value.none from rfl), q⟩
  | brk => obtain ⟨_, _, _, q⟩ := hs; exact q.elim
  | cont => obtain ⟨_, _, _, q⟩ := hs; exact q.elim
end
section
variable {N : Names} {X : Cx} {k : Nat} {f : Addr} {fd : FuncData} {ps : List Str} {sp : Sp} {E : L2.St → XK} {x : Str} {p pos : Pos} {e : Expr} {es : List Expr} {t : TA}
theorem call_fnG {pins : List (Addr × Obj)} {σ : L2.St} {H : Hp} {s : Shared} {Q : VK} {us : List Value} {vs : List V} (F : FnG X.prog X.w X.K X.mg X.base k f fd ps sp) (hr : Room k X.A) (hgd : X.A.guards = some []) (hb : Binds X.K fd ps []) (hx : PassesAt (L2.CX X.prog X.w) X σ (E σ))
    (I : Inv X pins σ H s) (r : Vals vs us) (h : sp vs H Q (E σ)) : wpAny (model X.prog X.w) X.A (call (.ref f) us) (EP X pins σ Q) X.xe s := by
  have hl : us.length = ps.length := by rw [← r.length]; exact F.len _ _ _ _ h
  have hb2 := hb s us I.kIn (by rw [List.append_nil]; exact hl)
  rw [List.append_nil] at hb2
  refine wpAny_call (codeAny_mono (F.run X.A X.stack s H ⟨us, []⟩ us vs Q (E σ) hr hgd I.env0 hb2 r h) fun q s' hq => ?_)
  match q, hq with
  | .error e, hq => exact hx pins H s e s' I hq
  | .ok (.ret u), hq => exact I.after hq
theorem pe_callG (F : FnG X.prog X.w X.K X.mg X.base k f fd ps sp) (hr : Room k X.A) (hgd : X.A.guards = some []) (hg : Gl X x) (hm : X.mg x = some (.ref f)) (hk : PySem.W.keepIn X.K (.ref f) = true) (hb : Binds X.K fd ps []) (hx : ∀ σ, PassesAt (L2.CX X.prog X.w) X σ (E σ))
    (ha : PA X (e :: es) t) (hdb : (x == ("__debug__" : Str)) = false) (he : starEach (e :: es) X.env = (false, eval e X.env) :: starEach es X.env) (hpl : (backTo pos (starEach es X.env)).any (·.1) = false) :
    PE X (.Call (.Name x p) (e :: es) [] pos) (fun σ H Q => t σ H fun vs H1 => sp vs H1 Q (E σ)) := by
  refine ⟨fun pins s σ H Q I h => wpAny_Call_Name_kw (ld_glob I hg hm ?_ hdb)⟩
  exact PySem.W.callWith_K (h₀ := X.base) I.ok.mod.kin hk (thn (ha.run pos pins s σ H _ I h) fun us s1 ⟨vs, H1, I1, r, q⟩ => ⟨I1.kIn, call_fnG F hr hgd hb (hx σ) I1 r q⟩) he hpl
theorem pe_callG0 (F : FnG X.prog X.w X.K X.mg X.base k f fd ps sp) (hr : Room k X.A) (hgd : X.A.guards = some []) (hg : Gl X x) (hm : X.mg x = some (.ref f)) (hk : PySem.W.keepIn X.K (.ref f) = true) (hb : Binds X.K fd ps []) (hx : ∀ σ, PassesAt (L2.CX X.prog X.w) X σ (E σ))
    (hdb : (x == ("__debug__" : Str)) = false) : PE X (.Call (.Name x p) [] [] pos) (fun σ H Q => sp [] H Q (E σ)) := by
  refine ⟨fun pins s σ H Q I h => wpAny_Call_Name_kw (ld_glob I hg hm ?_ hdb)⟩
  exact PySem.W.callWith_K0 I.kIn hk (call_fnG (us := []) F hr hgd hb (hx σ) I .nil h)
/-- what a def of the table promises -/
def spM (N : Names) (M : Sem) (i n : Nat) : Sp := fun vs H Q E => vs.length = n ∧ ∃ W s ds, RH N.toNm W s H ∧ DVs N.toNm W ds vs ∧ Post N (DVr N) (M.call i ds s) W Q E
def mUse (g : List D → Sto → Res D) (ms : Env → Sto → Res (List D)) (en : Env) (s : Sto) : Res D := (ms en s).bind fun ds s1 => g ds s1
theorem je_call {M : Sem} {i n : Nat} {ms : Env → Sto → Res (List D)} (F : FnG X.prog X.w X.K X.mg X.base k f fd ps (spM N M i n)) (hr : Room k X.A) (hgd : X.A.guards = some []) (hg : Gl X x) (hm : X.mg x = some (.ref f)) (hk : PySem.W.keepIn X.K (.ref f) = true) (hb : Binds X.K fd ps [])
    (ha : JA N X (e :: es) ms) (hn : ∀ en s ds s1, ms en s = .ok ds s1 → ds.length = n) (hdb : (x == ("__debug__" : Str)) = false) (he : starEach (e :: es) X.env = (false, eval e X.env) :: starEach es X.env) (hpl : (backTo pos (starEach es X.env)).any (·.1) = false) :
    JE N X (.Call (.Name x p) (e :: es) [] pos) (mUse (M.call i) ms) := by
  refine ⟨fun E tk => (pe_callG (E := WE E) F hr hgd hg hm hk hb (fun σ => passAt tk σ) (ha.run E tk) hdb he hpl).imp fun σ H Q ⟨W, s, en, R, eo, p⟩ => ⟨W, s, en, R, eo, ?_⟩⟩
  unfold mUse at p
  cases hm : ms en s with
  | ok ds s1 =>
    rw [hm] at p
    intro W1 H1 vs l1 R1 g
    exact ⟨by rw [← g.length]; exact hn en s ds s1 hm, W1, s1, ds, R1, g, Post.mono l1 p⟩
  | exc c vs s1 => rw [hm] at p; exact p
  | bad => rw [hm] at p; exact p
theorem je_call0 {M : Sem} {i : Nat} (F : FnG X.prog X.w X.K X.mg X.base k f fd ps (spM N M i 0)) (hr : Room k X.A) (hgd : X.A.guards = some []) (hg : Gl X x) (hm : X.mg x = some (.ref f)) (hk : PySem.W.keepIn X.K (.ref f) = true) (hb : Binds X.K fd ps [])
    (hdb : (x == ("__debug__" : Str)) = false) : JE N X (.Call (.Name x p) [] [] pos) (fun _ s => M.call i [] s) :=
  ⟨fun E tk => (pe_callG0 (E := WE E) F hr hgd hg hm hk hb (fun σ => passAt tk σ) hdb).imp fun σ H Q ⟨W, s, en, R, eo, p⟩ => ⟨rfl, W, s, [], R, .nil, p⟩⟩
/-! ### a def's own run -/
theorem env_start {W : Wd} {ds : List D} {vs : List V} {Nn : List Str} {n : Nat} (g : DVs N.toNm W ds vs) (h1 : n = Nn.length) (h2 : ds.length ≤ Nn.length) : EnvOk N W (ds.map some ++ List.replicate (n - ds.length) none) (L2.start Nn vs) := by
  refine ⟨?_, fun i d e => ?_⟩
  · unfold L2.start
    rw [List.length_append, List.length_append, List.length_map, List.length_map, List.length_replicate, List.length_replicate, g.length, h1]
  · by_cases hi : i < ds.length
    · rw [List.getElem?_append_left (by simpa using hi), List.getElem?_map] at e
      cases hd : ds[i]? with
      | none => rw [hd] at e; cases e
      | some d' =>
        rw [hd] at e
        cases e
        obtain ⟨v, hv, dv⟩ := g.get hd
        refine ⟨v, ?_, dv⟩
        unfold L2.start
        rw [List.getElem?_append_left (by rw [List.length_map, ← g.length]; exact hi), List.getElem?_map, hv]
        rfl
    · rw [List.getElem?_append_right (by simpa using hi), List.getElem?_replicate] at e
      split at e <;> cases e
/-- what is let go at a def's end -/
theorem fin_ok {W W1 : Wd} {s s1 : Sto} {H1 : Hp} {frz : Bool} {d : D} {v : V} {Q : VK} {E : XK} (hW : ∀ n a, W.rho n = some a → n < s.size) (l : W.Le W1) (R : RH N.toNm W1 s1 H1) (dv : DV N.toNm W1 d v) (p : Post N (DVr N) (fin s.size frz d s1) W Q E) : Q v H1 := by
  have le : W.Le (W1.cut (Nat.max s.size s1.flr)) := l.cut fun n a e => Nat.lt_of_lt_of_le (hW n a e) (Nat.le_max_left _ _)
  have R2 := R.cut s.size
  unfold fin at p
  by_cases hd : d.mx ≤ Nat.max s.size s1.flr
  · rw [if_pos hd] at p
    exact p _ H1 v le R2 (dv.cut hd)
  · rw [if_neg hd] at p
    have keep : Post N (DVr N) (.ok d s1) W Q E → Q v H1 := fun p => p W1 H1 v l R dv
    cases d with
    | loc n =>
      have p : Post N (DVr N) (match s1.get n with
        | some c => if c.live && decide (c.mx ≤ Nat.max s.size s1.flr) then (if frz then Res.ok c.d (s1.cut s.size) else .ok (.loc (s1.cut s.size).size) ((s1.cut s.size).new c)) else .bad
        | none => .bad) W Q E := p
      cases hc : s1.get n with
      | none => rw [hc] at p; exact p.elim
      | some c =>
        rw [hc] at p
        have p : Post N (DVr N) (if c.live && decide (c.mx ≤ Nat.max s.size s1.flr) then (if frz then Res.ok c.d (s1.cut s.size) else .ok (.loc (s1.cut s.size).size) ((s1.cut s.size).new c)) else .bad) W Q E := p
        by_cases hmm : (c.live && decide (c.mx ≤ Nat.max s.size s1.flr)) = true
        · rw [if_pos hmm] at p
          simp only [Bool.and_eq_true, decide_eq_true_eq] at hmm
          obtain ⟨hlv, hm⟩ := hmm
          obtain ⟨q, rfl, hq⟩ := dv
          obtain ⟨q', o, e1, e2, k⟩ := R.take hc
          rw [hq] at e1
          cases e1
          have big : Nat.max s.size s1.flr ≤ n := by
            have : ¬ n + 1 ≤ Nat.max s.size s1.flr := hd
            omega
          have nd : s1.get n ≠ some .dead := fun z => by
            rw [hc] at z
            cases z
            cases hlv
          have f1 : (W1.cut (Nat.max s.size s1.flr)).fz q = none := R.dis n q hq nd
          have f2 : (W1.cut (Nat.max s.size s1.flr)).Fr q := by
            refine ⟨fun m e => ?_, ?_⟩
            · have e : (if m < Nat.max s.size s1.flr then W1.rho m else none) = some q := e
              by_cases hlt : m < Nat.max s.size s1.flr
              · rw [if_pos hlt] at e
                have := R.inj m n q e hq
                omega
              · rw [if_neg hlt] at e; cases e
            · cases e : W1.pv q with
              | none => exact e
              | some u => exact absurd hq ((R.dp q u e).2 n)
          have k2 := k.cut hm
          cases frz with
          | true =>
            have p : Post N (DVr N) (.ok c.d (s1.cut s.size)) W Q E := p
            have lf := Wd.frz_le (o := o) f1
            exact p _ H1 _ (le.trans lf) (R2.freeze e2 f1 f2) (cell_dv (k2.mono lf) Wd.frz_at hlv)
          | false =>
            have p : Post N (DVr N) (.ok (.loc (s1.cut s.size).size) ((s1.cut s.size).new c)) W Q E := p
            exact p _ H1 _ (le.trans R2.cel_le) (R2.new e2 f1 f2 k2) ⟨q, rfl, Wd.cel_at⟩
        · rw [if_neg hmm] at p; exact p.elim
    | _ => exact keep p
end
end Zd

/-! Zd: the check that a code stands for a text, and that it is right. -/
namespace Zd
open PySem PySem.Spec PyProof.Rows L2
/-- what is looked at: defs with their numbers of parameters, constants, classes, free built-in names -/
structure Ctx where
  fs : List (Str × Nat)
  gs : List (Str × Con)
  cs : List Str
  bl : List Str
/-- a block's names -/
structure Lx where
  N : List Str
  sc : Scope
  blk : Option Scope
def visB (sc : Scope) (x : Str) : Bool := match sc.names.lookup x with
  | some .local | some .cell | some .free => true
  | _ => false
def glB (sc : Scope) (x : Str) : Bool := match sc.names.lookup x with
  | some .globalImplicit => true
  | _ => false
def locB (L : Lx) (x : Str) : Bool := match L.sc.names.lookup x with
  | some .local => true
  | some .cell => (match L.blk with
    | none => true
    | some s => match s.names.lookup x with
      | some .cell => true
      | _ => false)
  | _ => false
def plainX (x : Str) : Bool := x != "__debug__" && x != "__classdict__" && x != "__name__"
def nStar : Expr → Bool
  | .Starred .. => false
  | _ => true
def nSlice : Expr → Bool
  | .Slice .. => false
  | _ => true
def nSet : Expr → Bool
  | .Set .. => false
  | _ => true
def baseOk : Expr → Bool
  | .Call (.Name id _) [] [] _ => id != "super"
  | _ => true
def bop : BOp → Operator
  | .add => .Add | .sub => .Sub | .mul => .Mult | .mod => .Mod | .fdiv => .FloorDiv | .pow => .Pow
def cop : COp → CmpOp
  | .eq => .Eq | .ne => .NotEq | .lt => .Lt | .le => .LtE | .gt => .Gt | .ge => .GtE | .isIn => .In | .notIn => .NotIn | .isN => .Is | .notN => .IsNot
def Blt.nm : Blt → Str
  | .len => "len" | .abs => "abs" | .int => "int" | .max => "max" | .min => "min" | .all => "all" | .any => "any" | .repr => "repr" | .list => "list" | .tuple => "tuple" | .str => "str" | .sum => "sum"
def Blt.has : Blt → Bool
  | .len | .abs | .int | .max | .min | .all | .any | .repr => true
  | _ => false
def SM.nm : SM → Str
  | .append => "append" | .join => "join" | .pop0 => "pop" | .pop1 => "pop"
def SM.has : SM → Bool
  | .append | .join => true
  | _ => false
def tyNm (C : Ctx) : TyR → Option Str
  | .int => some "int" | .bool => some "bool" | .str => some "str" | .tuple => some "tuple" | .list => some "list" | .dict => some "dict"
  | .own c => C.cs[c]?
def gB (C : Ctx) (L : Lx) (x : Str) : Bool := glB L.sc x && C.bl.contains x && plainX x
def isNew : Ex → Bool
  | .lst _ => true
  | .dct _ => true
  | .comp .. => true
  | _ => false
def chkNm (L : Lx) (i : Nat) : Expr → Bool
  | .Name x _ => decide (L.N[i]? = some x) && locB L x
  | _ => false
def chkNms (L : Lx) : List Nat → List Expr → Bool
  | [], [] => true
  | i :: is, e :: es => chkNm L i e && chkNms L is es
  | _, _ => false
def chkTg (L : Lx) (t : Tg) (e : Expr) : Bool := match t with
  | .nm i => chkNm L i e
  | .tp is => match e with
    | .Tuple es _ _ => chkNms L is es
    | _ => false
mutual
def chkE (C : Ctx) (L : Lx) : Ex → Expr → Bool
  | .var i, e => (match e with
    | .Name x _ => decide (L.N[i]? = some x) && visB L.sc x && plainX x
    | _ => false)
  | .con c, e => (match e with
    | .Constant k _ _ => (match c, k with
      | .non, .none => true
      | .bl a, .bool b => a == b
      | .int a, .int b => a == b
      | .str a, .str b => decide (a = b)
      | _, _ => false)
    | _ => false)
  | .glo g, e => (match e with
    | .Name x _ => decide ((C.gs[g]?).map (·.1) = some x) && glB L.sc x && plainX x
    | _ => false)
  | .and xs, e => (match e with
    | .BoolOp .And es _ => !es.isEmpty && chkEs C L xs es
    | _ => false)
  | .or xs, e => (match e with
    | .BoolOp .Or es _ => !es.isEmpty && chkEs C L xs es
    | _ => false)
  | .not x, e => (match e with
    | .UnaryOp .Not a _ => chkE C L x a
    | _ => false)
  | .ite x y z, e => (match e with
    | .IfExp c a b _ => chkE C L x c && chkE C L y a && chkE C L z b
    | _ => false)
  | .bin o x y, e => (match e with
    | .BinOp a op b _ => decide (op = bop o) && chkE C L x a && chkE C L y b
    | _ => false)
  | .neg x, e => (match e with
    | .UnaryOp .USub a _ => chkE C L x a
    | _ => false)
  | .cmp o x y, e => (match e with
    | .Compare a [op] [b] _ => decide (op = cop o) && chkE C L x a && chkE C L y b && nSet b
    | _ => false)
  | .chain o o' x y z, e => (match e with
    | .Compare a [op, op'] [b, c] _ => decide (op = cop o) && decide (op' = cop o') && chkE C L x a && chkE C L y b && chkE C L z c && nSet b && nSet c
    | _ => false)
  | .tup xs, e => (match e with
    | .Tuple es _ _ => chkEs C L xs es
    | _ => false)
  | .lst xs, e => (match e with
    | .List es _ => chkEs C L xs es
    | _ => false)
  | .dct xs, e => (match e with
    | .Dict ks vs _ => decide (ks.length ≤ 15) && chkPs C L xs ks vs
    | _ => false)
  | .idx x y, e => (match e with
    | .Subscript a b _ => chkE C L x a && chkE C L y b && nSlice b
    | _ => false)
  | .slc x lo hi none, e => (match e with
    | .Subscript a (.Slice l h none _) _ => chkE C L x a && chkO C L lo l && chkO C L hi h
    | _ => false)
  | .slc _ _ _ (some _), _ => false
  | .isi x t, e => (match e with
    | .Call (.Name f _) [a, .Name c _] [] _ => f == "isinstance" && gB C L f && chkE C L x a && nStar a && decide (tyNm C t = some c) && glB L.sc c && plainX c && (!t.blt || C.bl.contains c)
    | _ => false)
  | .blt b xs, e => (match e with
    | .Call (.Name f _) es [] _ => f == b.nm && b.has && gB C L f && !es.isEmpty && chkEs C L xs es
    | _ => false)
  | .call i xs, e => (match e with
    | .Call (.Name f _) es [] _ => decide (C.fs[i]? = some (f, xs.length)) && glB L.sc f && plainX f && chkEs C L xs es
    | _ => false)
  | .smeth m x xs, e => (match e with
    | .Call (.Attribute o name apos) es [] cpos => name == m.nm && m.has && chkE C L x o && baseOk o && decide (apos.endLine = cpos.line) && !es.isEmpty && decide (es.length < 20) && chkEs C L xs es
    | _ => false)
  | .mk x, e => isNew x && chkE C L x e
  | .comp own t it c x, e => (match e with
    | .ListComp elt [⟨tg, iter, ifs, k⟩] scope _ => decide (k = 0) && chkIt C L it iter && nSet iter && blkC L.N L.sc scope (own.map fun i => ((L.N[i]?).getD "", i)) && t.is.all (fun i => own.contains i) &&
        (chkTg ⟨L.N, relS scope L.sc, some scope⟩ t tg && chkC C ⟨L.N, relS scope L.sc, some scope⟩ c ifs && chkE C ⟨L.N, relS scope L.sc, some scope⟩ x elt)
    | _ => false)
def chkEs (C : Ctx) (L : Lx) : List Ex → List Expr → Bool
  | [], es => es.isEmpty
  | x :: xs, es => (match es with
    | e :: es => nStar e && chkE C L x e && chkEs C L xs es
    | [] => false)
def chkPs (C : Ctx) (L : Lx) : List Ex → List (Option Expr) → List Expr → Bool
  | [], ks, vs => ks.isEmpty && vs.isEmpty
  | [_], _, _ => false
  | x :: y :: xs, ks, vs => (match ks, vs with
    | some k :: ks, v :: vs => chkE C L x k && chkE C L y v && chkPs C L xs ks vs
    | _, _ => false)
def chkO (C : Ctx) (L : Lx) : Option Ex → Option Expr → Bool
  | none, o => o.isNone
  | some x, o => (match o with
    | some e => chkE C L x e
    | none => false)
def chkC (C : Ctx) (L : Lx) : Option Ex → List Expr → Bool
  | none, es => es.isEmpty
  | some x, es => (match es with
    | [e] => chkE C L x e
    | _ => false)
def chkIt (C : Ctx) (L : Lx) : It → Expr → Bool
  | .val x, e => chkE C L x e
  | .rng xs, e => (match e with
    | .Call (.Name f _) es [] _ => f == "range" && gB C L f && (decide (es.length = 1) || decide (es.length = 2)) && chkEs C L xs es
    | _ => false)
end
/-! ### what holds of the program -/
def Con.v : Con → V
  | .non => .non
  | .bl b => .bl b
  | .int i => .int i
  | .str x => .str x
/-- the defs at a level -/
structure Lv (C : Ctx) (N : Names) (T : Tab) (P : Program) (w : World) (K : PySem.W.Frag) (mg : Str → Option Value) (base : Heap) (k : Nat) : Prop where
  fn : ∀ (i : Nat) (x : Str) (n : Nat), C.fs[i]? = some (x, n) → ∃ f fd ps, FnG P w K mg base k f fd ps (spM N (run T k) i n) ∧ mg x = some (.ref f) ∧ PySem.W.keepIn K (.ref f) = true ∧ Binds K fd ps []
  gl : ∀ (i : Nat) (x : Str) (c : Con), C.gs[i]? = some (x, c) → T.glo[i]? = some c ∧ ∃ u, mg x = some u ∧ RelV c.v u
  cl : ClF K N T.ncl
  cm : ∀ (c : Nat) (x : Str), C.cs[c]? = some x → mg x = some (.ref (N.ca c))
  bl : ∀ x, x ∈ C.bl → mg x = none
/-- what holds of a context -/
structure Gd (C : Ctx) (N : Names) (T : Tab) (k : Nat) (L : Lx) (X : Cx) : Prop where
  n : X.N = L.N
  sc : X.env.scope = L.sc
  fn : ∀ x, X.fn x = match L.blk with
    | none => true
    | some s => s.names.lookup x == some .cell
  calm : X.calm = true
  gd : X.A.guards = some []
  room : Room k X.A
  nd : X.N.Nodup
  own : PassesOwn (model X.prog X.w) X.A X.env X.xe
  nk : N.K = X.K
  lv : Lv C N T X.prog X.w X.K X.mg X.base k
section
variable {C : Ctx} {N : Names} {T : Tab} {k : Nat} {L : Lx} {X : Cx} {e a b c : Expr} {es : List Expr} {pos : Pos}
theorem Gd.un (G : Gd C N T k L X) : X.A.units + 64 < cLine := G.room.units
theorem Gd.blk (G : Gd C N T k L X) {scope : Scope} (s : Shared) (H : Hp) (B : Addr) (cl : List (Str × Addr)) (fp : List Addr) : Gd C N T k ⟨L.N, relS scope L.sc, some scope⟩ (X.blk s H scope (compEnvC scope cl B X.env) fp) where
  n := G.n
  sc := by show relS scope X.env.scope = _; rw [G.sc]
  fn := fun x => rfl
  calm := G.calm
  gd := G.gd
  room := G.room
  nd := G.nd
  own := .never
  nk := G.nk
  lv := G.lv
theorem plain3 {x : Str} (h : plainX x = true) : (x == ("__debug__" : Str)) = false ∧ (x == ("__classdict__" : Str)) = false ∧ x ≠ "__name__" := by
  unfold plainX at h
  simp only [Bool.and_eq_true, bne_iff_ne, ne_eq] at h
  exact ⟨by simpa using h.1.1, by simpa using h.1.2, h.2⟩
theorem Gd.vis (G : Gd C N T k L X) {x : Str} (h : visB L.sc x = true) : Vis X.env.scope x := by
  rw [G.sc]
  unfold visB at h
  unfold Vis
  cases hl : L.sc.names.lookup x with
  | none => rw [hl] at h; cases h
  | some q => rw [hl] at h; cases q <;> first | (cases h; done) | simp
theorem Gd.gl (G : Gd C N T k L X) {x : Str} (h : glB L.sc x = true) : Gl X x := by
  show X.env.scope.names.lookup x = _
  rw [G.sc]
  unfold glB at h
  cases hl : L.sc.names.lookup x with
  | none => rw [hl] at h; cases h
  | some q => rw [hl] at h; cases q <;> first | (cases h; done) | rfl
theorem Gd.loc (G : Gd C N T k L X) {x : Str} (h : locB L x = true) : Loc X.env.scope x ∧ (X.fn x = true ∨ X.env.scope.names.lookup x = some .local) := by
  rw [G.fn, G.sc]
  unfold locB at h
  unfold L2.Loc
  cases hl : L.sc.names.lookup x with
  | none => rw [hl] at h; cases h
  | some q =>
    rw [hl] at h
    cases q with
    | «local» => exact ⟨.inl rfl, .inr rfl⟩
    | cell =>
      refine ⟨.inr rfl, .inl ?_⟩
      cases hb : L.blk with
      | none => rfl
      | some s =>
        rw [hb] at h
        show (s.names.lookup x == some NameKind.cell) = true
        have h : (match s.names.lookup x with
          | some .cell => true
          | _ => false) = true := h
        cases hs : s.names.lookup x with
        | none => rw [hs] at h; cases h
        | some q => rw [hs] at h; cases q <;> first | (cases h; done) | rfl
    | _ => cases h
theorem gB3 (G : Gd C N T k L X) {x : Str} (h : gB C L x = true) : Gl X x ∧ X.mg x = none ∧ x ≠ "__name__" ∧ (x == ("__debug__" : Str)) = false := by
  unfold gB at h
  simp only [Bool.and_eq_true] at h
  obtain ⟨h1, _, h2⟩ := plain3 h.2
  exact ⟨G.gl h.1.1, G.lv.bl x (by simpa using h.1.2), h2, h1⟩
theorem star_ok {env : PySem.Env} (h : nStar e = true) : starEach (e :: es) env = (false, eval e env) :: starEach es env := by
  cases e <;> first | (cases h; done) | rfl
theorem star_plain {env : PySem.Env} : ∀ {es : List Expr}, es.all nStar = true → (starEach es env).all (fun x => !x.1) = true ∧ (backTo pos (starEach es env)).any (·.1) = false ∧ (backTo pos (starEach es env)).all (fun x => !x.1) = true
  | [], _ => ⟨rfl, rfl, rfl⟩
  | e :: es, h => by
    simp only [List.all_cons, Bool.and_eq_true] at h
    obtain ⟨h1, h2, h3⟩ := star_plain (env := env) h.2
    rw [star_ok h.1]
    refine ⟨by simpa using h1, ?_, ?_⟩
    · show (false || (backTo pos (starEach es env)).any (·.1)) = false
      rw [h2]; rfl
    · show (!false && (backTo pos (starEach es env)).all (fun x => !x.1)) = true
      rw [h3]; rfl
theorem ix_ok (h : nSlice e = true) : PlainIx e := by
  intro o i
  cases e <;> first | (cases h; done) | rfl
theorem set_ok {env : PySem.Env} (h : nSet e = true) : ∀ x, foldedSetIterable e env x = pure x := by
  intro x
  cases e <;> first | (cases h; done) | rfl
theorem mark_ok {op : CmpOp} (h : nSet e = true) : behindInMarks op e = false := by
  cases e <;> first | (cases h; done) | rfl
theorem base_ok {env : PySem.Env} {name : Str} (h : baseOk e = true) : attributeBase e name env (eval e env) = eval e env := by
  unfold attributeBase
  split
  · rename_i id p1 p2
    unfold baseOk at h
    rw [if_pos (by simp only [bne_iff_ne, ne_eq] at h; simp [h])]
  · rfl
/-! ### targets -/
theorem nm_ok (G : Gd C N T k L X) {i : Nat} (h : chkNm L i e = true) : PG X e (gName i) ∧ nStar e = true ∧ ∃ x p, e = .Name x p ∧ X.N[i]? = some x := by
  unfold chkNm at h
  split at h
  · rename_i x p
    simp only [Bool.and_eq_true, decide_eq_true_eq] at h
    obtain ⟨l1, l2⟩ := G.loc h.2
    have hn : X.N[i]? = some x := by rw [G.n]; exact h.1
    exact ⟨pg_name G.nd hn l1 l2, rfl, x, p, rfl, hn⟩
  · cases h
theorem aE_cons {env : PySem.Env} (h : nStar e = true) : assignEach (e :: es) env = (false, assign e env) :: assignEach es env := by
  cases e <;> first | (cases h; done) | rfl
theorem nms_ok (G : Gd C N T k L X) : ∀ {is : List Nat} {es : List Expr}, chkNms L is es = true → PGs X es (Tg.gs is) ∧ (assignEach es X.env).length = is.length ∧ (assignEach es X.env).findIdx? (·.1) = none
  | [], [], _ => ⟨pgs_nil, rfl, rfl⟩
  | [], _ :: _, h => by cases h
  | _ :: _, [], h => by cases h
  | i :: is, e :: es, h => by
    unfold chkNms at h
    rw [Bool.and_eq_true] at h
    obtain ⟨h1, hs, _⟩ := nm_ok G h.1
    obtain ⟨h2, h3, h4⟩ := nms_ok G h.2
    have ea := aE_cons (es := es) (env := X.env) hs
    refine ⟨pgs_cons h1 h2 (by rw [ea]; rfl), by rw [ea]; simp [h3], by rw [ea, List.findIdx?_cons]; simp [h4]⟩
theorem tg_ok (G : Gd C N T k L X) {t : Tg} (h : chkTg L t e = true) : PG X e (t.g X.K) ∧ nStar e = true := by
  cases t with
  | nm i => exact ⟨(nm_ok G h).1, (nm_ok G h).2.1⟩
  | tp is =>
    unfold chkTg at h
    simp only at h
    split at h
    · rename_i es kk p
      obtain ⟨h1, h2, h3⟩ := nms_ok G h
      exact ⟨pg_tup G.calm h1 h2 h3, rfl⟩
    · cases h
/-! ### expressions -/
/-- what is shown of an expression -/
structure Ok (N : Names) (X : Cx) (M : Sem) (x : Ex) (e : Expr) : Prop where
  je : JE N X e (ev M x)
  jt : JT N X e (tru (ev M x))
  jn : isNew x = true → JN N X e (ev M x)
inductive Oks (N : Names) (X : Cx) (M : Sem) : List Ex → List Expr → Prop where
  | nil : Oks N X M [] []
  | cons {x xs e es} : nStar e = true → Ok N X M x e → Oks N X M xs es → Oks N X M (x :: xs) (e :: es)
variable {M : Sem}
def nTest : Expr → Bool
  | .UnaryOp .Not _ _ => false
  | .BoolOp .. => false
  | .IfExp .. => false
  | .Compare .. => false
  | _ => true
theorem test_ok {env : PySem.Env} (h : nTest e = true) : ∀ whole, isTrue e env whole = (do let v ← whole; standAt e.pos; holding [v] (truthy v)) := by
  intro whole
  cases e with
  | UnaryOp op a p => cases op <;> first | (cases h; done) | rfl
  | _ => first | (cases h; done) | rfl
theorem Ok.plain {x : Ex} (h : JE N X e (ev M x)) (ht : nTest e = true) (hn : isNew x = false) : Ok N X M x e := ⟨h, jt_plain h (test_ok ht), fun z => by rw [hn] at z; cases z⟩
theorem Ok.new {x : Ex} (h : JN N X e (ev M x)) (ht : nTest e = true) : Ok N X M x e := ⟨h.je, jt_plain h.je (test_ok ht), fun _ => h⟩
theorem Oks.ja : ∀ {xs : List Ex} {es : List Expr}, Oks N X M xs es → JA N X es (evs M xs)
  | _, _, .nil => ja_nil
  | _, _, .cons h1 h2 h3 => ja_cons h2.je h3.ja (star_ok h1)
theorem Oks.star : ∀ {xs : List Ex} {es : List Expr}, Oks N X M xs es → es.all nStar = true
  | _, _, .nil => rfl
  | _, _, .cons h1 h2 h3 => by simp [h1, h3.star]
theorem Oks.len : ∀ {xs : List Ex} {es : List Expr}, Oks N X M xs es → xs.length = es.length
  | _, _, .nil => rfl
  | _, _, .cons h1 h2 h3 => by simp [h3.len]
theorem evs_len : ∀ {xs : List Ex} {en : Env} {s s1 : Sto} {ds : List D}, evs M xs en s = .ok ds s1 → ds.length = xs.length
  | [], _, _, _, _, h => by cases h; rfl
  | x :: xs, en, s, s1, ds, h => by
    have h : ((ev M x en s).bind fun d s1 => (evs M xs en s1).bind fun ds s2 => .ok (d :: ds) s2) = .ok ds s1 := h
    cases hx : ev M x en s with
    | ok d s2 =>
      rw [hx] at h
      have h : ((evs M xs en s2).bind fun ds s2 => .ok (d :: ds) s2) = .ok ds s1 := h
      cases hr : evs M xs en s2 with
      | ok r s3 =>
        rw [hr] at h
        cases h
        simp [evs_len hr]
      | exc c vs s3 => rw [hr] at h; cases h
      | bad => rw [hr] at h; cases h
    | exc c vs s3 => rw [hx] at h; cases h
    | bad => rw [hx] at h; cases h
theorem Oks.and (h0 : es ≠ []) : ∀ {xs : List Ex} {es : List Expr}, Oks N X M xs es → es ≠ [] → JE N X (.BoolOp .And es pos) (evAnd M xs) ∧ JW N X (.BoolOp .And es pos) (tru (evAnd M xs))
  | _, _, .nil, h => absurd rfl h
  | _, _, .cons h1 h2 .nil, _ => ⟨je_one h2.je, jw_and1 h2.jt⟩
  | _, _, .cons h1 h2 (.cons h3 h4 h5), _ =>
    have ih := Oks.and h0 (.cons h3 h4 h5) (by simp)
    ⟨je_and h2.je ih.1, jw_and h2.jt ih.2⟩
theorem Oks.or (h0 : es ≠ []) : ∀ {xs : List Ex} {es : List Expr}, Oks N X M xs es → es ≠ [] → JE N X (.BoolOp .Or es pos) (evOr M xs) ∧ JW N X (.BoolOp .Or es pos) (tru (evOr M xs))
  | _, _, .nil, h => absurd rfl h
  | _, _, .cons h1 h2 .nil, _ => ⟨je_one h2.je, jw_or1 h2.jt⟩
  | _, _, .cons h1 h2 (.cons h3 h4 h5), _ =>
    have ih := Oks.or h0 (.cons h3 h4 h5) (by simp)
    ⟨je_or h2.je ih.1, jw_or h2.jt ih.2⟩
theorem ob_ok (o : BOp) : OpR X (binaryOp (bop o)) (rOp2 N (D.bin o)) := by
  cases o
  · exact ob_add
  · exact ob_sub
  · exact ob_mul
  · exact ob_mod
  · exact ob_fdiv
  · exact ob_pow
theorem oc_ok (hu : X.A.units + 64 < cLine) (o : COp) : OpR X (compareOp (cop o)) (rOp2 N (D.cmp o)) := by
  cases o
  · exact oc_eq hu
  · exact oc_ne hu
  · exact oc_lt
  · exact oc_le
  · exact oc_gt
  · exact oc_ge
  · exact oc_in
  · exact oc_notIn
  · exact oc_isN
  · exact oc_notN
theorem ty_pe (G : Gd C N T k L X) {t : TyR} {x : Str} {p : Pos} (h : tyNm C t = some x) (hg : glB L.sc x = true) (hp : plainX x = true) (hb : (!t.blt || C.bl.contains x) = true) : PE X (.Name x p) (tC (t.v N)) := by
  obtain ⟨p1, p2, p3⟩ := plain3 hp
  have blt : ∀ {n : String}, X.mg x = none → bootBuiltins x = some (.type n) → PE X (.Name x p) (tC (.ty n)) := fun hm hv => pe_bltn (G.gl hg) hm hv rfl p3 p1
  cases t with
  | own c => exact pe_glob (G.gl hg) (G.lv.cm c x h) rfl p1
  | _ =>
    cases h
    have hm : X.mg _ = none := G.lv.bl _ (by simpa [TyR.blt] using hb)
    exact blt hm (by decide +kernel)
theorem cb_ok (G : Gd C N T k L X) {b : Blt} (h : b.has = true) : (∃ id, bootBuiltins b.nm = some (.builtin id) ∧ CallR X (.builtin id) (rCall N (D.blt b))) ∨ ∃ n, bootBuiltins b.nm = some (.type n) ∧ CallR X (.type n) (rCall N (D.blt b)) := by
  cases b with
  | len => exact .inl ⟨_, by decide +kernel, cb_len G.nk⟩
  | abs => exact .inl ⟨_, by decide +kernel, cb_abs⟩
  | int => exact .inr ⟨_, by decide +kernel, ct_int⟩
  | max => exact .inl ⟨_, by decide +kernel, cb_max G.calm⟩
  | min => exact .inl ⟨_, by decide +kernel, cb_min G.calm⟩
  | all => exact .inl ⟨_, by decide +kernel, cb_all G.calm⟩
  | any => exact .inl ⟨_, by decide +kernel, cb_any G.calm⟩
  | repr => exact .inl ⟨_, by decide +kernel, cb_repr G.gd G.un⟩
  | _ => cases h
end
end Zd

/-! Zd: what the check shows. -/
namespace Zd
open PySem PySem.Spec PyProof.Rows L2
section
variable {C : Ctx} {N : Names} {T : Tab} {k : Nat}
theorem meth_ok {m : SM} (h : m.has = true) : ∃ Ty id, PlainAttrs Ty ∧ Slot Ty m.nm id ∧ typeOf (.builtin id) = pure (.type "method_descriptor") ∧ (∀ {X : Cx}, MtR X id (rMeth N (D.smeth m))) ∧
    ∀ {K : PySem.W.Frag} {W s H d v}, RH N.toNm W s H → DV N.toNm W d v → m.takes d s = true → tyV K Ty v H := by
  cases m with
  | append => exact ⟨_, _, F.plainAttrs_list, F.slot_list_append, F.type_list_append, mt_app, fun R dv h => ty_lst R dv h⟩
  | join => exact ⟨_, _, F.plainAttrs_str, F.slot_str_join, F.type_str_join, mt_joi, fun {K W s H d v} R dv h => by
      cases d <;> first | (cases h; done) | (cases dv; exact rfl)⟩
  | _ => cases h
mutual
theorem chkE_ok : ∀ (x : Ex) {L : Lx} {X : Cx} {e : Expr}, Gd C N T k L X → chkE C L x e = true → Ok N X (run T k) x e
  | .var i, L, X, e, G, h => by
    simp only [chkE] at h
    split at h
    · simp only [Bool.and_eq_true, decide_eq_true_eq] at h
      obtain ⟨p1, p2, p3⟩ := plain3 h.2
      exact .plain (je_var _ (by rw [G.n]; exact h.1.1) (G.vis h.1.2) p1 p2) rfl rfl
    · cases h
  | .con c, L, X, e, G, h => by
    simp only [chkE] at h
    split at h
    · refine .plain ?_ rfl rfl
      split at h
      · exact je_con pe_non fun W => by simp [Con.d, DV]
      · rename_i a b
        have e : a = b := by simpa using h
        subst e
        exact je_con pe_bl fun W => by simp [Con.d, DV]
      · rename_i a b
        have e : a = b := by simpa using h
        subst e
        exact je_con pe_int fun W => by simp [Con.d, DV]
      · rename_i a b
        have e : a = b := by simpa using h
        subst e
        exact je_con pe_str fun W => by simp [Con.d, DV]
      · cases h
    · cases h
  | .glo g, L, X, e, G, h => by
    simp only [chkE] at h
    split at h
    · rename_i x p
      simp only [Bool.and_eq_true, decide_eq_true_eq] at h
      obtain ⟨p1, p2, p3⟩ := plain3 h.2
      cases hg : C.gs[g]? with
      | none => rw [hg] at h; cases h.1.1
      | some q =>
        obtain ⟨x', c⟩ := q
        rw [hg] at h
        have ex : x' = _ := Option.some.inj h.1.1
        subst ex
        obtain ⟨ht, u, hm, hr⟩ := G.lv.gl g x' c hg
        refine .plain ?_ rfl rfl
        have em : (fun (_ : Env) s => Res.ok c.d s) = ev (run T k) (.glo g) := by
          funext en s
          show Res.ok c.d s = Res.opt ((run T k).glo g) s
          have : (run T k).glo g = (T.glo[g]?).map Con.d := by cases k <;> rfl
          rw [this, ht]
          rfl
        rw [← em]
        exact je_con (pe_glob (G.gl h.1.2) hm hr p1) fun W => by cases c <;> simp [Con.d, Con.v, DV]
    · cases h
  | .and xs, L, X, e, G, h => by
    simp only [chkE] at h
    split at h
    · rename_i es p
      simp only [Bool.and_eq_true, Bool.not_eq_true'] at h
      have h0 : es ≠ [] := by intro z; rw [z] at h; cases h.1
      obtain ⟨h1, h2⟩ := (chkEs_ok xs G h.2).and (pos := p) h0 h0
      exact ⟨h1, h2.jt, fun z => by cases z⟩
    · cases h
  | .or xs, L, X, e, G, h => by
    simp only [chkE] at h
    split at h
    · rename_i es p
      simp only [Bool.and_eq_true, Bool.not_eq_true'] at h
      have h0 : es ≠ [] := by intro z; rw [z] at h; cases h.1
      obtain ⟨h1, h2⟩ := (chkEs_ok xs G h.2).or (pos := p) h0 h0
      exact ⟨h1, h2.jt, fun z => by cases z⟩
    · cases h
  | .not x, L, X, e, G, h => by
    simp only [chkE] at h
    split at h
    · have a := chkE_ok x G h
      exact ⟨je_not a.je, jt_not a.jt, fun z => by cases z⟩
    · cases h
  | .ite x y z, L, X, e, G, h => by
    simp only [chkE] at h
    split at h
    · simp only [Bool.and_eq_true] at h
      have a := chkE_ok x G h.1.1
      have b := chkE_ok y G h.1.2
      have c := chkE_ok z G h.2
      exact ⟨je_ite a.jt b.je c.je, jt_ite a.jt b.jt c.jt, fun z => by cases z⟩
    · cases h
  | .bin o x y, L, X, e, G, h => by
    simp only [chkE] at h
    split at h
    · simp only [Bool.and_eq_true, decide_eq_true_eq] at h
      obtain ⟨⟨rfl, h1⟩, h2⟩ := h
      exact .plain (je_bin (ob_ok o) (chkE_ok x G h1).je (chkE_ok y G h2).je) rfl rfl
    · cases h
  | .neg x, L, X, e, G, h => by
    simp only [chkE] at h
    split at h
    · exact .plain (je_neg (chkE_ok x G h).je) rfl rfl
    · cases h
  | .cmp o x y, L, X, e, G, h => by
    simp only [chkE] at h
    split at h
    · simp only [Bool.and_eq_true, decide_eq_true_eq] at h
      obtain ⟨⟨⟨rfl, h1⟩, h2⟩, h3⟩ := h
      have a := (chkE_ok x G h1).je
      have b := (chkE_ok y G h2).je
      exact ⟨je_cmp (oc_ok G.un o) a b (mark_ok h3), jt_cmp (oc_ok G.un o) a b (mark_ok h3), fun z => by cases z⟩
    · cases h
  | .chain o o' x y z, L, X, e, G, h => by
    simp only [chkE] at h
    split at h
    · simp only [Bool.and_eq_true, decide_eq_true_eq] at h
      obtain ⟨⟨⟨⟨⟨⟨rfl, rfl⟩, h1⟩, h2⟩, h3⟩, h4⟩, h5⟩ := h
      have a := (chkE_ok x G h1).je
      have b := (chkE_ok y G h2).je
      have c := (chkE_ok z G h3).je
      have hm : ∀ b c : Expr, nSet c = true → lastMarks [cop o, cop o'] [b, c] = false := fun b c h => by
        show lastMarks [cop o'] [c] = false
        exact mark_ok h
      exact ⟨je_chain (oc_ok G.un o) (oc_ok G.un o') a b c (hm _ _ h5), jt_chain (oc_ok G.un o) (oc_ok G.un o') a b c (hm _ _ h5), fun z => by cases z⟩
    · cases h
  | .tup xs, L, X, e, G, h => by
    simp only [chkE] at h
    split at h
    · exact .plain (je_tup (chkEs_ok xs G h).ja) rfl rfl
    · cases h
  | .lst xs, L, X, e, G, h => by
    simp only [chkE] at h
    split at h
    · exact .new (jn_lst (chkEs_ok xs G h).ja) rfl
    · cases h
  | .dct xs, L, X, e, G, h => by
    simp only [chkE] at h
    split at h
    · rename_i ks vs p
      simp only [Bool.and_eq_true, decide_eq_true_eq] at h
      obtain ⟨h1, h2, h3⟩ := chkPs_ok xs (p := p) G h.2
      refine .new ?_ rfl
      cases ks with
      | nil =>
        cases vs with
        | nil =>
          cases xs with
          | nil => exact jn_dct0
          | cons x xs => cases xs <;> (simp [chkPs] at h)
        | cons _ _ => cases h3
      | cons k0 ks => exact jn_dct h1 h2 h3 (by simp) h.1
    · cases h
  | .idx x y, L, X, e, G, h => by
    simp only [chkE] at h
    split at h
    · simp only [Bool.and_eq_true] at h
      exact .plain (je_idx (chkE_ok x G h.1.1).je (chkE_ok y G h.1.2).je (ix_ok h.2) G.nk) rfl rfl
    · cases h
  | .slc x lo hi none, L, X, e, G, h => by
    simp only [chkE] at h
    split at h
    · simp only [Bool.and_eq_true] at h
      exact .plain (je_slc (chkE_ok x G h.1.1).je (chkO_ok lo G h.1.2) (chkO_ok hi G h.2)) rfl rfl
    · cases h
  | .slc _ _ _ (some _), _, _, _, _, h => by simp [chkE] at h
  | .isi x t, L, X, e, G, h => by
    simp only [chkE] at h
    split at h
    · rename_i f p1 a c p2 p3
      simp only [Bool.and_eq_true, decide_eq_true_eq] at h
      obtain ⟨⟨⟨⟨⟨⟨⟨h1, h2⟩, h3⟩, h4⟩, h5⟩, h6⟩, h7⟩, h8⟩ := h
      have ef : f = "isinstance" := by simpa using h1
      subst ef
      obtain ⟨g1, g2, g3, g4⟩ := gB3 G h2
      have en : (run T k).ncl = T.ncl := by cases k <;> rfl
      refine .plain (je_isi (n := (run T k).ncl) G.nk (by rw [en]; exact G.lv.cl) g1 g2 (by decide +kernel) (chkE_ok x G h3).je (ty_pe G h5 h6 h7 h8) g3 g4 (star_ok h4) rfl rfl) rfl rfl
    · cases h
  | .blt b xs, L, X, e, G, h => by
    simp only [chkE] at h
    split at h
    · rename_i f p1 es p2
      simp only [Bool.and_eq_true, Bool.not_eq_true'] at h
      obtain ⟨⟨⟨⟨h1, h2⟩, h3⟩, h4⟩, h5⟩ := h
      have ef : f = b.nm := by simpa using h1
      subst ef
      obtain ⟨g1, g2, g3, g4⟩ := gB3 G h3
      have o := chkEs_ok xs G h5
      cases es with
      | nil => cases h4
      | cons a es =>
        have st := o.star
        simp only [List.all_cons, Bool.and_eq_true] at st
        refine .plain ?_ rfl rfl
        rcases cb_ok G h2 with ⟨id, hv, hc⟩ | ⟨n, hv, hc⟩
        · exact je_callB hc g1 g2 hv o.ja g3 g4 (star_ok st.1) (star_plain st.2).2.1
        · exact je_callTy hc g1 g2 hv o.ja g3 g4 (star_ok st.1) (star_plain st.2).2.1
    · cases h
  | .call i xs, L, X, e, G, h => by
    simp only [chkE] at h
    split at h
    · rename_i f p1 es p2
      simp only [Bool.and_eq_true, decide_eq_true_eq] at h
      obtain ⟨⟨⟨h1, h2⟩, h3⟩, h4⟩ := h
      obtain ⟨p1, p2, p3⟩ := plain3 h3
      obtain ⟨fa, fd, ps, F, hm, hk, hb⟩ := G.lv.fn i f xs.length h1
      have o := chkEs_ok xs G h4
      refine .plain ?_ rfl rfl
      cases o with
      | nil => exact je_call0 F G.room G.gd (G.gl h2) hm hk hb p1
      | @cons x xs e es s1 o1 o2 =>
        exact je_call F G.room G.gd (G.gl h2) hm hk hb (Oks.cons s1 o1 o2).ja (fun en s ds s1 z => evs_len z) p1 (star_ok s1) (star_plain o2.star).2.1
    · cases h
  | .smeth m x xs, L, X, e, G, h => by
    simp only [chkE] at h
    split at h
    · rename_i o name apos es cpos
      simp only [Bool.and_eq_true, Bool.not_eq_true', decide_eq_true_eq] at h
      obtain ⟨⟨⟨⟨⟨⟨⟨h1, h2⟩, h3⟩, h4⟩, h5⟩, h6⟩, h7⟩, h8⟩ := h
      have ef : name = m.nm := by simpa using h1
      subst ef
      obtain ⟨Ty, id, q1, q2, q3, q4, q5⟩ := meth_ok (N := N) h2
      have ok := chkEs_ok xs G h8
      cases es with
      | nil => cases h6
      | cons a es =>
        have st := ok.star
        have st2 := st
        simp only [List.all_cons, Bool.and_eq_true] at st
        refine .plain (je_meth q1 q2 q3 q4 (fun R dv h => q5 R dv h) (chkE_ok x G h3).je ok.ja (base_ok h4) ?_ (by simp [h5]) (star_ok st.1) (star_plain st.2).2.1) rfl rfl
        rw [(star_plain st2).2.2]
        simp only [List.length_cons] at h7 ⊢
        simp [keywordEach, backToKw]
        omega
    · cases h
  | .mk x, L, X, e, G, h => by
    simp only [chkE, Bool.and_eq_true] at h
    have o := chkE_ok x G h.2
    have hj := je_mk (o.jn h.1)
    have ht : nTest e = true := by
      cases x <;> first | (cases h.1; done) | skip
      all_goals (simp only [chkE] at h; have h2 := h.2; split at h2 <;> first | rfl | (cases h2; done))
    exact .plain hj ht rfl
  | .comp own t it c x, L, X, e, G, h => by
    simp only [chkE] at h
    split at h
    · rename_i elt tg iter ifs kk scope p
      simp only [Bool.and_eq_true, decide_eq_true_eq] at h
      obtain ⟨⟨⟨⟨⟨h0, h1⟩, h2⟩, h3⟩, h4⟩, ⟨h5, h6⟩, h7⟩ := h
      subst h0
      refine .new ?_ rfl
      have em : (own.map fun i => (((L.N[i]?).getD "", i) : Str × Nat)).map (·.2) = own := by
        rw [List.map_map]
        exact List.map_id' own
      have hb : BlkOk X.N X.env.scope scope (own.map fun i => ((L.N[i]?).getD "", i)) := by rw [G.n, G.sc]; exact blkOk_by h3
      have r := jn_comp (pos := p) G.calm G.nd (chkIt_ok it G h1 tg) hb (fun s H B cl fp => (tg_ok (G.blk s H B cl fp) h5).1) (fun s H B cl fp => chkC_ok c (G.blk s H B cl fp) h6)
        (fun s H B cl fp => (chkE_ok x (G.blk s H B cl fp) h7).je) (set_ok h2) (by rw [em]; intro i hi; exact by simpa using List.all_eq_true.mp h4 i hi)
      rw [em] at r
      exact r
    · cases h
theorem chkEs_ok : ∀ (xs : List Ex) {L : Lx} {X : Cx} {es : List Expr}, Gd C N T k L X → chkEs C L xs es = true → Oks N X (run T k) xs es
  | [], L, X, es, G, h => by
    simp only [chkEs] at h
    cases es with
    | nil => exact .nil
    | cons _ _ => cases h
  | x :: xs, L, X, es, G, h => by
    simp only [chkEs] at h
    cases es with
    | nil => cases h
    | cons e es =>
      simp only [Bool.and_eq_true] at h
      exact .cons h.1.1 (chkE_ok x G h.1.2) (chkEs_ok xs G h.2)
theorem chkPs_ok : ∀ (xs : List Ex) {L : Lx} {X : Cx} {p : Pos} {ks : List (Option Expr)} {vs : List Expr}, Gd C N T k L X → chkPs C L xs ks vs = true → JP N X p ks vs (evs (run T k) xs) ∧ ks.all (·.isSome) = true ∧ ks.length = vs.length
  | [], L, X, p, ks, vs, G, h => by
    simp only [chkPs, Bool.and_eq_true] at h
    cases ks with
    | nil =>
      cases vs with
      | nil => exact ⟨jp_nil, rfl, rfl⟩
      | cons _ _ => cases h.2
    | cons _ _ => cases h.1
  | [_], _, _, _, _, _, _, h => by simp [chkPs] at h
  | x :: y :: xs, L, X, p, ks, vs, G, h => by
    simp only [chkPs] at h
    split at h
    · simp only [Bool.and_eq_true] at h
      obtain ⟨a, b, c⟩ := chkPs_ok xs (p := p) G h.2
      exact ⟨jp_cons (chkE_ok x G h.1.1).je (chkE_ok y G h.1.2).je a, by simpa using b, by simp [c]⟩
    · cases h
theorem chkO_ok : ∀ (o : Option Ex) {L : Lx} {X : Cx} {e : Option Expr}, Gd C N T k L X → chkO C L o e = true → JO N X e (evO (run T k) o)
  | none, L, X, e, G, h => by
    simp only [chkO] at h
    cases e with
    | none => exact jo_none
    | some _ => cases h
  | some x, L, X, e, G, h => by
    simp only [chkO] at h
    cases e with
    | none => cases h
    | some e => exact jo_some (chkE_ok x G h).je
theorem chkC_ok : ∀ (o : Option Ex) {L : Lx} {X : Cx} {es : List Expr}, Gd C N T k L X → chkC C L o es = true → JC N X es (evC (run T k) o)
  | none, L, X, es, G, h => by
    simp only [chkC] at h
    cases es with
    | nil => exact jc_nil
    | cons _ _ => cases h
  | some x, L, X, es, G, h => by
    simp only [chkC] at h
    split at h
    · exact jc_one (chkE_ok x G h).jt
    · cases h
theorem chkIt_ok : ∀ (it : It) {L : Lx} {X : Cx} {e : Expr}, Gd C N T k L X → chkIt C L it e = true → ∀ tg, JI N X tg e (evIt (run T k) it)
  | .val x, L, X, e, G, h, tg => by
    simp only [chkIt] at h
    exact ji_val G.nk (chkE_ok x G h).je
  | .rng xs, L, X, e, G, h, tg => by
    simp only [chkIt] at h
    split at h
    · rename_i f p1 es p2
      simp only [Bool.and_eq_true, Bool.or_eq_true, decide_eq_true_eq] at h
      obtain ⟨⟨⟨h1, h2⟩, h3⟩, h4⟩ := h
      have ef : f = "range" := by simpa using h1
      subst ef
      obtain ⟨g1, g2, g3, g4⟩ := gB3 G h2
      have o := chkEs_ok xs G h4
      have hl := o.len
      have st := o.star
      match es, h3, o with
      | [a], _, o =>
        simp only [List.all_cons, Bool.and_eq_true] at st
        have e : evIt (run T k) (.rng xs) = mRng 1 (evs (run T k) xs) := by
          funext en s
          show (evs _ xs en s).bind (fun ds s1 => Res.opt (D.range xs.length ds) s1) = _
          rw [hl]; rfl
        rw [e]
        exact ji_rng1 g1 g2 o.ja (star_ok st.1)
      | [a, b], _, o =>
        simp only [List.all_cons, Bool.and_eq_true] at st
        have e : evIt (run T k) (.rng xs) = mRng 2 (evs (run T k) xs) := by
          funext en s
          show (evs _ xs en s).bind (fun ds s1 => Res.opt (D.range xs.length ds) s1) = _
          rw [hl]; rfl
        rw [e]
        refine ji_rng2 g1 g2 o.ja ?_ ?_
        · rw [star_ok st.1, star_ok st.2.1]; rfl
        · exact star_ok st.2.1
    · cases h
end
end
end Zd

/-! Zd: the check for statements, and for defs. -/
namespace Zd
open PySem PySem.Spec PyProof.Rows L2
def nComp : Expr → Bool
  | .ListComp .. => false
  | .SetComp .. => false
  | .DictComp .. => false
  | _ => true
abbrev bkB (sc : Scope) : ScopeKind := if sc.kind.isAnnotationScope then .function else sc.kind
/-- is the new list stored by the display itself? -/
def swB (sc : Scope) (y : Str) (py p : Pos) (scope : Scope) : Bool := bkB sc == .function && sc.names.lookup y == some .local && py.line == p.line && !(scope.names.any fun (n, k) => n == y && (k == .local || k == .cell))
def starB : Expr → Bool
  | .Starred .. => true
  | _ => false
/-- which names are stored from the right -/
def swp (sc : Scope) (ts vs : List Expr) : Option (Option (List Str)) :=
  if (!(ts.length == 2 || ts.length == 3) || vs.length != ts.length || bkB sc != .function) = true then some none
  else if (vs.any fun | .Starred .. => true | _ => false) = true then some none
  else
    let line := (ts.head?.map (·.pos.line)).getD 0
    let names := ts.filterMap fun
      | .Name id pos => if sc.names.lookup id == some .local && pos.line == line then some id else none
      | _ => none
    if (names.length != ts.length || names.eraseDups.length != names.length) = true then some none
    else if vs.all (foldedForSure 8) = true then some none
    else if vs.all (constantsAlone 8) = true then none
    else some (some names)
def nameOf : Expr → Str
  | .Name x _ => x
  | _ => ""
def nTup : Expr → Bool
  | .Tuple .. => false
  | _ => true
def isComp : Ex → Bool
  | .comp .. => true
  | .mk (.comp ..) => true
  | _ => false
mutual
def chkS (C : Ctx) (L : Lx) : St → Stmt → Bool
  | .pass, st => (match st with
    | .Pass _ => true
    | .Expr (.Constant (.str _) _ _) _ => true
    | _ => false)
  | .brk, st => (match st with
    | .Break _ => true
    | _ => false)
  | .cont, st => (match st with
    | .Continue _ => true
    | _ => false)
  | .expr x, st => (match st with
    | .Expr e _ => nComp e && chkE C L x e
    | _ => false)
  | .ret x, st => (match st with
    | .Return (some e) _ => chkE C L x e
    | _ => false)
  | .retN, st => (match st with
    | .Return none _ => true
    | _ => false)
  | .asg (.nm i) x, st => (match st with
    | .Assign [.Name y py] e _ => decide (L.N[i]? = some y) && locB L y && chkE C L x e && (match e with
      | .ListComp _ _ scope p => if swB L.sc y py p scope then isComp x else true
      | e => nComp e)
    | _ => false)
  | .asg (.tp is) x, st => (match st with
    | .Assign [.Tuple ts k p] e _ => chkTg L (.tp is) (.Tuple ts k p) && chkE C L x e && (match e with
      | .Tuple vs _ _ => (match swp L.sc ts vs with
        | some none => true
        | some (some names) => decide (names = ts.map nameOf) && decide (is.Nodup) && (ts.all fun t => decide (L.sc.names.lookup (nameOf t) = some .local)) && (match x with
          | .tup _ => decide (is.length = 2) || decide (is.length = 3)
          | _ => false)
        | none => false)
      | _ => true)
    | _ => false)
  | .asgI o i x, st => (match st with
    | .Assign [.Subscript a b _] e _ => chkE C L o a && chkE C L i b && chkE C L x e && nSlice b
    | _ => false)
  | .ite c p q, st => (match st with
    | .If e a b _ => chkE C L c e && chkSs C L p a && chkSs C L q b
    | _ => false)
  | .forS t it b, st => (match st with
    | .For tg iter body [] _ => chkTg L t tg && chkIt C L it iter && nSet iter && chkSs C L b body
    | _ => false)
  | .whileS c b, st => (match st with
    | .While e body [] _ => chkE C L c e && chkSs C L b body
    | _ => false)
  | .frz _, _ => false
def chkSs (C : Ctx) (L : Lx) : List St → List Stmt → Bool
  | [], sts => sts.isEmpty
  | .frz _ :: cs, sts => chkSs C L cs sts
  | c :: cs, sts => (match sts with
    | st :: sts => chkS C L c st && chkSs C L cs sts
    | [] => false)
end
section
variable {C : Ctx} {N : Names} {T : Tab} {k : Nat} {L : Lx} {X : Cx} {e a b c : Expr} {es : List Expr} {pos : Pos} {M : Sem}
theorem nComp_ok {env : PySem.Env} {o : Option Expr} {n : Nat} (h : nComp e = true) : swapsWith e o n env = pure false := by
  cases e <;> first | (cases h; done) | rfl
theorem sole_ok {env : PySem.Env} {ts : List Expr} {kk : Nat} {p : Pos} {n : Nat} : swapsWithSole [.Tuple ts kk p] e n env = pure false := by
  cases e <;> rfl
theorem sole_ix {env : PySem.Env} {p : Pos} {n : Nat} : swapsWithSole [.Subscript a b p] e n env = pure false := by
  cases e <;> rfl
theorem sub_as {env : PySem.Env} {p : Pos} (h : nSlice b = true) : ∀ v, assign (.Subscript a b p) env v = (do
      let ov ← holding [v] (eval a env)
      let iv ← holding [v, ov] (eval b env)
      standAt p
      holding [v, ov, iv] (setItem ov iv v)
      release [v, ov, iv] []) := by
  intro v
  cases b <;> first | (cases h; done) | rfl
theorem swst_ix {env : PySem.Env} {p : Pos} : swappedStores [.Subscript a b p] e env = pure none := by
  cases e <;> rfl
theorem swst_tup {env : PySem.Env} {ts : List Expr} {kk : Nat} {p : Pos} (h : nTup e = true) : swappedStores [.Tuple ts kk p] e env = pure none := by
  cases e <;> first | (cases h; done) | rfl
theorem swB_ok {env : PySem.Env} {y : Str} {py p : Pos} {n : Nat} {elt : Expr} {gs : List Comprehension} {scope : Scope} : swapsWith (.ListComp elt gs scope p) (some (.Name y py)) n env = pure (swB env.scope y py p scope) := by
  unfold swapsWith swB Env.blockKind Env.kindOf bkB
  rfl
theorem swp_ok {env : PySem.Env} {ts vs : List Expr} {k1 k2 : Nat} {p1 p2 : Pos} {r : Option (List Str)} (h : swp env.scope ts vs = some r) : swappedStores [.Tuple ts k1 p1] (.Tuple vs k2 p2) env = pure r := by
  unfold swp at h
  simp only at h
  unfold swappedStores
  simp only [Env.kindOf]
  split at h
  · rename_i h1
    cases h
    exact if_pos h1
  rename_i h1
  refine (if_neg h1).trans ?_
  split at h
  · rename_i h2
    cases h
    exact if_pos h2
  rename_i h2
  refine (if_neg h2).trans ?_
  split at h
  · rename_i h3
    cases h
    exact if_pos h3
  rename_i h3
  refine (if_neg h3).trans ?_
  split at h
  · rename_i h4
    cases h
    exact if_pos h4
  rename_i h4
  refine (if_neg h4).trans ?_
  split at h
  · cases h
  rename_i h5
  cases h
  exact if_neg h5
theorem swB_loc {sc : Scope} {y : Str} {py p : Pos} {scope : Scope} (h : swB sc y py p scope = true) : sc.names.lookup y = some .local := by
  unfold swB at h
  simp only [Bool.and_eq_true, beq_iff_eq] at h
  exact h.1.1.2
theorem comp_set (G : Gd C N T k L X) {own : List Nat} {t : Tg} {it : It} {co : Option Ex} {x : Ex} {elt : Expr} {gs : List Comprehension} {scope : Scope} {p py : Pos} {y : Str} {i : Nat} (h : chkE C L (.comp own t it co x) (.ListComp elt gs scope p) = true)
    (hs : swB L.sc y py p scope = true) (hy : X.N[i]? = some y) :
    JS N X (.Assign [.Name y py] (.ListComp elt gs scope p) pos) (mAsg (.nm i) (mMk (ev (run T k) (.comp own t it co x)))) ∧ JS N X (.Assign [.Name y py] (.ListComp elt gs scope p) pos) (mAsg (.nm i) (ev (run T k) (.comp own t it co x))) := by
  simp only [chkE] at h
  split at h
  · rename_i elt' tg iter ifs kk scope' p' heq
    cases heq
    simp only [Bool.and_eq_true, decide_eq_true_eq] at h
    obtain ⟨⟨⟨⟨⟨h0, h1⟩, h2⟩, h3⟩, h4⟩, ⟨h5, h6⟩, h7⟩ := h
    subst h0
    have em : (own.map fun i => (((L.N[i]?).getD "", i) : Str × Nat)).map (·.2) = own := by
      rw [List.map_map]
      exact List.map_id' own
    have hb : BlkOk X.N X.env.scope scope (own.map fun i => ((L.N[i]?).getD "", i)) := by rw [G.n, G.sc]; exact blkOk_by h3
    have hl : X.env.scope.names.lookup y = some .local := by rw [G.sc]; exact swB_loc hs
    have hw : swapsWith (.ListComp elt [⟨tg, iter, ifs, 0⟩] scope p) (some (.Name y py)) pos.line X.env = pure true := by rw [swB_ok, G.sc, hs]
    have sub : ∀ i ∈ t.is, i ∈ (own.map fun i => (((L.N[i]?).getD "", i) : Str × Nat)).map (·.2) := by rw [em]; intro i hi; simpa using List.all_eq_true.mp h4 i hi
    have r1 := js_setLc (spos := pos) G.calm G.nd hy hl hw (chkIt_ok it G h1 tg) hb (fun s H B cl fp => (tg_ok (G.blk s H B cl fp) h5).1) (fun s H B cl fp => chkC_ok co (G.blk s H B cl fp) h6)
      (fun s H B cl fp => (chkE_ok x (G.blk s H B cl fp) h7).je) (set_ok h2) sub
    have r2 := js_setLcF (spos := pos) G.calm G.nd hy hl hw (chkIt_ok it G h1 tg) hb (fun s H B cl fp => (tg_ok (G.blk s H B cl fp) h5).1) (fun s H B cl fp => chkC_ok co (G.blk s H B cl fp) h6)
      (fun s H B cl fp => (chkE_ok x (G.blk s H B cl fp) h7).je) (set_ok h2) sub
    rw [em] at r1 r2
    exact ⟨r1, r2⟩
  · cases h
theorem nms_name : ∀ {is : List Nat} {ts : List Expr}, chkNms L is ts = true → ∀ (j i : Nat), is[j]? = some i → ∃ (x : Str) (p : Pos), ts[j]? = some (Expr.Name x p) ∧ L.N[i]? = some x
  | [], _, _, j, i, hi => by simp at hi
  | i0 :: is, [], h, _, _, _ => by cases h
  | i0 :: is, e :: ts, h, j, i, hi => by
    unfold chkNms at h
    rw [Bool.and_eq_true] at h
    cases j with
    | zero =>
      simp only [List.getElem?_cons_zero, Option.some.injEq] at hi
      subst hi
      have h1 := h.1
      unfold chkNm at h1
      split at h1
      · rename_i x p
        simp only [Bool.and_eq_true, decide_eq_true_eq] at h1
        exact ⟨x, p, rfl, h1.1⟩
      · cases h1
    | succ j =>
      rw [List.getElem?_cons_succ] at hi ⊢
      exact nms_name h.2 j i hi
theorem nms_len : ∀ {is : List Nat} {ts : List Expr}, chkNms L is ts = true → ts.length = is.length
  | [], [], _ => rfl
  | [], _ :: _, h => by cases h
  | _ :: _, [], h => by cases h
  | i :: is, e :: ts, h => by
    unfold chkNms at h
    rw [Bool.and_eq_true] at h
    simp [nms_len h.2]
def frzB : St → Bool
  | .frz _ => true
  | _ => false
theorem frz_is {c : St} (h : frzB c = true) : ∃ i, c = .frz i := by
  cases c <;> first | exact ⟨_, rfl⟩ | (cases h; done)
theorem chkSs_cons {c : St} {cs : List St} {sts : List Stmt} (hf : ¬ frzB c = true) (h : chkSs C L (c :: cs) sts = true) : ∃ st sts', sts = st :: sts' ∧ chkS C L c st = true ∧ chkSs C L cs sts' = true := by
  cases c <;> first | (exact absurd rfl hf) | skip
  all_goals
    simp only [chkSs] at h
    cases sts with
    | nil => cases h
    | cons st sts =>
      simp only [Bool.and_eq_true] at h
      exact ⟨st, sts, rfl, h.1, h.2⟩
mutual
theorem chkS_ok : ∀ (c : St) {L : Lx} {X : Cx} {st : Stmt}, Gd C N T k L X → chkS C L c st = true → JS N X st (ex (run T k) c)
  | .pass, L, X, st, G, h => by
    simp only [chkS] at h
    split at h
    · exact js_pass
    · exact js_doc
    · cases h
  | .brk, L, X, st, G, h => by
    simp only [chkS] at h
    split at h
    · exact js_brk
    · cases h
  | .cont, L, X, st, G, h => by
    simp only [chkS] at h
    split at h
    · exact js_cont
    · cases h
  | .expr x, L, X, st, G, h => by
    simp only [chkS] at h
    split at h
    · rw [Bool.and_eq_true] at h
      exact js_expr (chkE_ok x G h.2).je (nComp_ok h.1)
    · cases h
  | .ret x, L, X, st, G, h => by
    simp only [chkS] at h
    split at h
    · exact js_ret (chkE_ok x G h).je
    · cases h
  | .retN, L, X, st, G, h => by
    simp only [chkS] at h
    split at h
    · exact js_retN
    · cases h
  | .asg (.nm i) x, L, X, st, G, h => by
    simp only [chkS] at h
    split at h
    · rename_i y py e p
      simp only [Bool.and_eq_true, decide_eq_true_eq] at h
      obtain ⟨⟨⟨h1, h2⟩, h3⟩, h4⟩ := h
      obtain ⟨l1, l2⟩ := G.loc h2
      have hn : X.N[i]? = some y := by rw [G.n]; exact h1
      have je := (chkE_ok x G h3).je
      split at h4
      · rename_i elt gs scope p'
        by_cases hs : swB L.sc y py p' scope = true
        · rw [if_pos hs] at h4
          cases x with
          | comp own t it c z => exact (comp_set G h3 hs hn).2
          | mk z =>
            cases z with
            | comp own t it c z =>
              have h3' : chkE C L (.comp own t it c z) (.ListComp elt gs scope p') = true := by
                rw [chkE, Bool.and_eq_true] at h3
                exact h3.2
              exact (comp_set G h3' hs hn).1
            | _ => cases h4
          | _ => cases h4
        · refine js_set G.nd hn l1 je ?_ l2
          rw [swB_ok, G.sc]
          simp only [Bool.not_eq_true] at hs
          rw [hs]
      · exact js_set G.nd hn l1 je (nComp_ok h4) l2
    · cases h
  | .asg (.tp is) x, L, X, st, G, h => by
    simp only [chkS] at h
    split at h
    · rename_i ts kk p e p2
      simp only [Bool.and_eq_true] at h
      obtain ⟨⟨h1, h2⟩, h3⟩ := h
      have pg := (tg_ok G h1).1
      have o := chkE_ok x G h2
      split at h3
      · rename_i vs k2 p3
        cases hw : swp L.sc ts vs with
        | none => rw [hw] at h3; cases h3
        | some r =>
          rw [hw] at h3
          have hw' := swp_ok (env := X.env) (k1 := kk) (k2 := k2) (p1 := p) (p2 := p3) (by rw [G.sc]; exact hw)
          cases r with
          | none => exact js_asg o.je pg sole_ok hw' rfl
          | some names =>
            simp only [Bool.and_eq_true, decide_eq_true_eq] at h3
            obtain ⟨⟨⟨h4, h5⟩, h6⟩, h7⟩ := h3
            cases x with
            | tup xs =>
              have h7 : (decide (is.length = 2) || decide (is.length = 3)) = true := h7
              have h1' : chkNms L is ts = true := h1
              have lk := nms_name h1'
              have ll := nms_len h1'
              have oks := chkEs_ok xs G (by simp only [chkE] at h2; exact h2)
              subst h4
              have loc : ∀ (j : Nat) (x : Str) (q : Pos), ts[j]? = some (.Name x q) → X.env.scope.names.lookup x = some .local := fun j x q hj => by
                rw [G.sc]
                have := List.all_eq_true.mp h6 _ (List.mem_of_getElem? hj)
                exact of_decide_eq_true (p := L.sc.names.lookup x = some .local) this
              have vl : vs.length = ts.length := by
                unfold swp at hw
                simp only at hw
                split at hw
                · cases hw
                · rename_i g
                  simp only [Bool.or_eq_true, not_or, bne_iff_ne, ne_eq, Bool.not_eq_true', Decidable.not_not] at g
                  exact g.1.2
              rw [Bool.or_eq_true, decide_eq_true_eq, decide_eq_true_eq] at h7
              match is, ts, vs, h7, ll, vl, lk, h5, loc, hw', oks with
              | [i, j], [t1, t2], [v1, v2], _, _, _, lk, h5, loc, hw', oks =>
                obtain ⟨x1, q1, e1, n1⟩ := lk 0 i rfl
                obtain ⟨x2, q2, e2, n2⟩ := lk 1 j rfl
                have a1 := loc 0 _ _ e1
                have a2 := loc 1 _ _ e2
                simp only [List.getElem?_cons_zero, List.getElem?_cons_succ, Option.some.injEq] at e1 e2
                subst e1 e2
                have ne : i ≠ j := by simpa using h5
                exact js_par G.calm G.nd (by rw [G.n]; exact n1) (by rw [G.n]; exact n2) ne a1 a2 oks.ja hw' sole_ok
              | [i, j, l], [t1, t2, t3], [v1, v2, v3], _, _, _, lk, h5, loc, hw', oks =>
                obtain ⟨x1, q1, e1, n1⟩ := lk 0 i rfl
                obtain ⟨x2, q2, e2, n2⟩ := lk 1 j rfl
                obtain ⟨x3, q3, e3, n3⟩ := lk 2 l rfl
                have a1 := loc 0 _ _ e1
                have a2 := loc 1 _ _ e2
                have a3 := loc 2 _ _ e3
                simp only [List.getElem?_cons_zero, List.getElem?_cons_succ, Option.some.injEq] at e1 e2 e3
                subst e1 e2 e3
                simp only [List.nodup_cons, List.mem_cons, List.not_mem_nil, or_false, not_or] at h5
                exact js_par3 G.calm G.nd (by rw [G.n]; exact n1) (by rw [G.n]; exact n2) (by rw [G.n]; exact n3) h5.1.1 h5.1.2 h5.2.1 a1 a2 a3 oks.ja hw' sole_ok
            | _ => cases h7
      · rename_i hne
        refine js_asg o.je pg sole_ok (swst_tup ?_) rfl
        cases e <;> first | rfl | (exact absurd rfl (hne _ _ _))
    · cases h
  | .asgI o i x, L, X, st, G, h => by
    simp only [chkS] at h
    split at h
    · simp only [Bool.and_eq_true] at h
      exact js_put put_lst (chkE_ok o G h.1.1.1).je (chkE_ok i G h.1.1.2).je (chkE_ok x G h.1.2).je (sub_as h.2) sole_ix swst_ix rfl
    · cases h
  | .ite c p q, L, X, st, G, h => by
    simp only [chkS] at h
    split at h
    · simp only [Bool.and_eq_true] at h
      exact js_if (chkE_ok c G h.1.1).jt (chkSs_ok p G h.1.2) (chkSs_ok q G h.2)
    · cases h
  | .forS t it b, L, X, st, G, h => by
    simp only [chkS] at h
    split at h
    · simp only [Bool.and_eq_true] at h
      obtain ⟨⟨⟨h1, h2⟩, h3⟩, h4⟩ := h
      exact js_for G.own G.calm (chkIt_ok it G h2 _) (tg_ok G h1).1 (chkSs_ok b G h4) (set_ok h3)
    · cases h
  | .whileS c b, L, X, st, G, h => by
    simp only [chkS] at h
    split at h
    · simp only [Bool.and_eq_true] at h
      exact js_while G.own (chkE_ok c G h.1).jt (chkSs_ok b G h.2)
    · cases h
  | .frz _, _, _, _, _, h => by simp [chkS] at h
theorem chkSs_ok : ∀ (cs : List St) {L : Lx} {X : Cx} {sts : List Stmt}, Gd C N T k L X → chkSs C L cs sts = true → JSs N X sts (exs (run T k) cs)
  | [], L, X, sts, G, h => by
    simp only [chkSs] at h
    cases sts with
    | nil => exact js_nil
    | cons _ _ => cases h
  | c :: cs, L, X, sts, G, h => by
    by_cases hf : frzB c = true
    · obtain ⟨i, rfl⟩ := frz_is hf
      simp only [chkSs] at h
      exact js_frz (i := i) (chkSs_ok cs G h)
    · obtain ⟨st, sts', rfl, h1, h2⟩ := chkSs_cons hf h
      exact js_cons (chkS_ok c G h1) (chkSs_ok cs G h2)
end
end
end Zd

/-! Zd: all defs, level by level. -/
namespace Zd
open PySem PySem.Spec PyProof.Rows L2
/-- what is seen of the module -/
structure FaF (C : Ctx) (T : Tab) (K : PySem.W.Frag) (mg : Str → Option Value) (i : Nat) (x : Str) (n : Nat) : Prop where
  ex : ∃ qual params body scope f fd ps Nn fn, FunD K x qual params body scope [] [] f fd ∧ mg x = some (.ref f) ∧ FnScope Nn ps scope ∧ Binds K fd ps [] ∧ T.fns[i]? = some fn ∧ ps.length = n ∧ fn.np = n ∧ Nn.length = fn.nn ∧ chkSs C ⟨Nn, scope, none⟩ fn.body body = true
structure Sta (C : Ctx) (N : Names) (T : Tab) (K : PySem.W.Frag) (mg : Str → Option Value) : Prop where
  fn : ∀ (i : Nat) (x : Str) (n : Nat), C.fs[i]? = some (x, n) → FaF C T K mg i x n
  gl : ∀ (i : Nat) (x : Str) (c : Con), C.gs[i]? = some (x, c) → T.glo[i]? = some c ∧ ∃ u, mg x = some u ∧ RelV c.v u
  cl : ClF K N T.ncl
  cm : ∀ (c : Nat) (x : Str), C.cs[c]? = some x → mg x = some (.ref (N.ca c))
  bl : ∀ x, x ∈ C.bl → mg x = none
theorem XcOk.cut {N : Names} {W : Wd} {c b : Nat} {vs : List D} {cls : Value} {d : Option Addr} {H : Hp} (h : XcOk N W c vs cls d H) (m : D.mxs vs ≤ b) : XcOk N (W.cut b) c vs cls d H := by
  obtain ⟨e, us, g, l, r⟩ := h
  exact ⟨e, us, g.cut m, l, r⟩
section
variable {C : Ctx} {N : Names} {T : Tab} {P : Program} {w : World} {K : PySem.W.Frag} {mg : Str → Option Value} {base : Heap}
theorem fn_up (hK : N.K = K) {i n k : Nat} {qual x : Str} {params : Arguments} {body : List Stmt} {scope : Scope} {f : Addr} {fd : FuncData} {ps Nn : List Str} {fn : Fn} (ih : Lv C N T P w K mg base k) (F : FunD K x qual params body scope [] [] f fd) (FS : FnScope Nn ps scope)
    (hT : T.fns[i]? = some fn) (l1 : ps.length = n) (l2 : fn.np = n) (l3 : Nn.length = fn.nn) (hc : chkSs C ⟨Nn, scope, none⟩ fn.body body = true) : FnG P w K mg base (k + 1) f fd ps (spM N (run T (k + 1)) i n) := by
  refine FnG.make F FS (fun vs H Q E q => by rw [l1]; exact q.1) fun cdv A outer s H vs Q E hr hg q => ?_
  obtain ⟨hl, W, s0, ds, R, g, p⟩ := q
  have G : Gd C N T k ⟨Nn, scope, none⟩ (cxOf (L2.CX P w) P w K mg base Nn qual scope f cdv A outer s H E) :=
    ⟨rfl, rfl, fun _ => rfl, rfl, hg, hr, FS.nd, passes_of rfl, hK, ih⟩
  refine ⟨RdS N (exs (run T k) fn.body) (fun cls d _ H => E cls d H), (chkSs_ok fn.body G hc).run _ (takes_of rfl rfl rfl rfl), ?_⟩
  have p : Post N (DVr N) (match T.fns[i]? with
    | some fn => callFn fn (run T k) ds s0
    | none => .bad) W Q E := p
  rw [hT] at p
  have p : Post N (DVr N) (callFn fn (run T k) ds s0) W Q E := p
  unfold callFn at p
  by_cases hd : ds.length = fn.np
  · rw [if_pos hd] at p
    have pre : ps.length ≤ Nn.length := by
      have := congrArg List.length FS.pre
      rw [List.length_take] at this
      omega
    refine ⟨W, s0, _, R, env_start (n := fn.nn) g l3.symm (by omega), ?_⟩
    rw [hd]
    cases hx : exs (run T k) fn.body (ds.map some ++ List.replicate (fn.nn - fn.np) none) s0 with
    | ok fl en s1 =>
      rw [hx] at p
      cases fl with
      | next => exact fun W1 H1 σ1 l R1 eo => fin_ok R.dom l R1 (by simp [DV]) p
      | ret d => exact fun W1 H1 v l R1 dv => fin_ok R.dom l R1 dv p
      | brk => exact p.elim
      | cont => exact p.elim
    | exc c es en s1 =>
      rw [hx] at p
      have p : Post N (DVr N) (if D.mxs es ≤ Nat.max s0.size s1.flr then Res.exc c es (s1.cut s0.size) else .bad) W Q E := p
      by_cases hm : D.mxs es ≤ Nat.max s0.size s1.flr
      · rw [if_pos hm] at p
        exact fun W1 H1 σ1 cls d l R1 eo x => p (W1.cut (Nat.max s0.size s1.flr)) H1 cls d (l.cut fun n a e => Nat.lt_of_lt_of_le (R.dom n a e) (Nat.le_max_left _ _)) (R1.cut s0.size) (x.cut hm)
      · rw [if_neg hm] at p; exact p.elim
    | bad => rw [hx] at p; exact p.elim
  · rw [if_neg hd] at p; exact p.elim
theorem lv_of (hK : N.K = K) (S : Sta C N T K mg) : ∀ k, Lv C N T P w K mg base k
  | 0 => ⟨fun i x n h => by
      obtain ⟨qual, params, body, scope, f, fd, ps, Nn, fn, F, hm, FS, hb, hT, l1, l2, l3, hc⟩ := (S.fn i x n h).ex
      exact ⟨f, fd, ps, ⟨fun vs H Q E q => by rw [l1]; exact q.1, fun A outer s H args us vs Q E _ _ _ _ _ q => by
        obtain ⟨_, W, s, ds, _, _, p⟩ := q
        exact p.elim⟩, hm, F.kp, hb⟩, S.gl, S.cl, S.cm, S.bl⟩
  | k + 1 => by
    have ih := lv_of hK S k
    refine ⟨fun i x n h => ?_, S.gl, S.cl, S.cm, S.bl⟩
    obtain ⟨qual, params, body, scope, f, fd, ps, Nn, fn, F, hm, FS, hb, hT, l1, l2, l3, hc⟩ := (S.fn i x n h).ex
    exact ⟨f, fd, ps, fn_up hK ih F FS hT l1 l2 l3 hc, hm, F.kp, hb⟩
end
end Zd

/-! Zd: from the evaluator's answer to the law. -/
namespace Zd
open PySem PySem.Spec PyProof.Rows L2
/-- the script, as the defs see it -/
def Scr (K : PySem.W.Frag) (H : Hp) (a : Addr) (ns : List Int) : Prop := (∃ o, H a = some (.frz o (.lst (ns.map V.int)))) ∨ KLst K a (ns.map V.int)
section
variable {P : Program} {w : World} {K : PySem.W.Frag} {mg mb : Str → Option Value} {k : Nat} {fa a : Addr} {fd : FuncData} {ps : List Str} {sp : Sp} {s₁ : Shared} {vs : List Value} {ns : List Int}
/-- the call of the law's def, where H tells of nothing but the script -/
theorem top_core {H : Hp} (KX : K.In s₁.heap) (hns : s₁.heap.Ns mainGlobals mg) (hb : s₁.heap.Ns builtinsNs mb) (hbb : ∀ x : Str, x ≠ "__name__" → mb x = bootBuiltins x) (hlim : s₁.heap.NoLimit) (hg : s₁.gens = #[])
    (ha : s₁.heap.get? a = some { cls := .type "list", data := .seq vs.toArray }) (hr : Room k callerA) (F : ∀ base : Heap, K.In base → base.Ns mainGlobals mg → FnG P w K mg base k fa fd ps sp) (hbind : BindsTo s₁ fd ⟨[.ref a], []⟩ (ps.zip [.ref a]))
    (hsp : sp [.ref a] H (fun v _ => v = .bl true) fun _ _ _ => False) (hO : ∀ b, H b = none ∨ ∃ o xs, H b = some (.frz o (.lst xs))) (hok : HOk P w H s₁.heap) (hA : ∀ b, H b ≠ none → b = a) (hK : H a ≠ none → K.lookup a = none) :
    codeAny (model P w) callerA (.call (.ref fa) ⟨[.ref a], []⟩) (fun r s' => r = .ok (.ret (.bool true)) ∧ OldK s₁.heap s'.heap ∧ s'.os = s₁.os ∧ AllBare s'.gens) s₁ := by
  have other : ∀ {b : Addr} {o : Obj}, s₁.heap.get? b = some o → b ≠ a → H b = none := fun {b o} _ ne => Classical.byContradiction fun z => ne (hA b z)
  have dictH : ∀ {b : Addr} {o : Obj} {es : Array DictEntry} {ep : Nat}, s₁.heap.get? b = some o → o.data = .dict es ep → H b = none := fun {b o es ep} e d => by
    by_cases q : b = a
    · subst q
      rw [e] at ha
      cases ha
      cases (show Data.seq vs.toArray 0 = Data.dict es ep from d)
    · exact other e q
  have ns_of : ∀ {b : Addr} {m : Str → Option Value}, s₁.heap.Ns b m → (hidT s₁.heap H).Ns b m := fun ⟨o, es, ep, e, d, r⟩ => ⟨o, es, ep, hidT_get e (dictH e d), d, r⟩
  have kb : K.In (hidT s₁.heap H) := fun b o e => hidT_get (KX b o e) (by
    by_cases q : b = a
    · refine Classical.byContradiction fun z => ?_
      rw [q] at e z
      rw [hK z] at e
      cases e
    · exact other (KX b o e) q)
  obtain ⟨mc, c1, c2⟩ := hlim
  have env : Env0 P w K mg (hidT s₁.heap H) callerA [] s₁ H :=
    { frames := rfl, mod := ⟨kb, ns_of hns, ⟨mb, ns_of hb, hbb⟩, ⟨mc, ns_of c1, c2⟩⟩, bs := fun b o e => of_hidT e, bsz := Nat.le_of_eq (hidT_size _ _), funs := trivial, frf := fun b z => (by cases z), hok := hok, bare := .of_eq hg }
  refine codeAny_mono ((F _ kb (ns_of hns)).run callerA [] s₁ H ⟨[.ref a], []⟩ [.ref a] [.ref a] _ _ hr rfl env hbind (.cons rfl .nil) hsp) fun r s' h => ?_
  match r, h with
  | .error e, h => obtain ⟨_, _, _, _, _, _, _, _, _, _, _, _, z⟩ := h; exact z.elim
  | .ok (.ret u), h =>
    obtain ⟨v, H', h1, h2, h3, h4, h5, h6⟩ := h
    have h6 : v = .bl true := h6
    subst h6
    refine ⟨by rw [show u = Value.bool true from h5], OldK.of_keep fun b o e => ?_, h1, h2⟩
    rcases hO b with z | ⟨ob, xs, z⟩
    · exact h3.keep b o e z (fun y => by cases y) (fun y => by cases y)
    · obtain ⟨e1, _⟩ := hok b _ z
      obtain ⟨e2, _⟩ := h4 b _ (h3.frzs b ob _ z)
      rw [e] at e1
      cases e1
      exact e2
theorem top_call (KX : K.In s₁.heap) (hns : s₁.heap.Ns mainGlobals mg) (hb : s₁.heap.Ns builtinsNs mb) (hbb : ∀ x : Str, x ≠ "__name__" → mb x = bootBuiltins x) (hlim : s₁.heap.NoLimit) (hg : s₁.gens = #[])
    (ha : s₁.heap.get? a = some { cls := .type "list", data := .seq vs.toArray }) (hi : IntsAre vs ns) (hl : ns.length ≤ sizeLine) (hr : Room k callerA) (F : ∀ base : Heap, K.In base → base.Ns mainGlobals mg → FnG P w K mg base k fa fd ps sp)
    (hbind : BindsTo s₁ fd ⟨[.ref a], []⟩ (ps.zip [.ref a])) (hsp : ∀ H : Hp, Scr K H a ns → sp [.ref a] H (fun v _ => v = .bl true) fun _ _ _ => False) :
    codeAny (model P w) callerA (.call (.ref fa) ⟨[.ref a], []⟩) (fun r s' => r = .ok (.ret (.bool true)) ∧ OldK s₁.heap s'.heap ∧ s'.os = s₁.os ∧ AllBare s'.gens) s₁ := by
  have rv := vals_ints hi
  cases hk : K.lookup a with
  | some o =>
    have e := KX a o hk
    rw [ha] at e
    cases e
    refine top_core (H := fun _ => none) KX hns hb hbb hlim hg ha hr F hbind (hsp _ (.inr ⟨_, vs.toArray, _, hk, rfl, rfl, rfl, ?_, by simpa using rv⟩)) (fun _ => .inl rfl) (fun b u z => by cases z) (fun b z => absurd rfl z) fun z => absurd rfl z
    rw [List.size_toArray, hi.length]
    exact hl
  | none =>
    let H : Hp := fun b => if b = a then some (.frz { cls := .type "list", data := .seq vs.toArray } (.lst (ns.map V.int))) else none
    have at_ : H a = some (.frz { cls := .type "list", data := .seq vs.toArray } (.lst (ns.map V.int))) := if_pos rfl
    have off : ∀ {b}, b ≠ a → H b = none := fun h => if_neg h
    refine top_core (H := H) KX hns hb hbb hlim hg ha hr F hbind (hsp H (.inl ⟨_, at_⟩)) (fun b => ?_) (fun b u z => ?_) (fun b z => Classical.byContradiction fun q => z (off q)) fun _ => hk
    · by_cases q : b = a
      · rw [q]; exact .inr ⟨_, _, at_⟩
      · exact .inl (off q)
    · by_cases q : b = a
      · subst q
        rw [at_] at z
        cases z
        exact ⟨ha, by rw [List.length_map]; exact hl, vs, _, rv, ha⟩
      · rw [off q] at z; cases z
end
/-- a script as a value -/
def script (ns : List Int) : D := .lck (ns.map D.int)
theorem ints_dvs {N : Nm} {W : Wd} : ∀ ns : List Int, DVs N W (ns.map D.int) (ns.map V.int)
  | [] => .nil
  | n :: ns => .cons (by simp [DV]) (ints_dvs ns)
theorem rh_start {N : Nm} {H : Hp} : RH N ⟨H, fun _ => none, fun _ => none⟩ ⟨[], 0⟩ H where
  fz := fun a o e => e
  cells := fun n c e => by simp [Sto.get] at e
  dom := fun n a e => by cases e
  inj := fun n m a e => by cases e
  dis := fun n a e => by cases e
  wf := fun n c e => by simp [Sto.get] at e
  flr := Nat.le_refl _
  pv := fun a o e => by cases e
  dp := fun a o e => by cases e
/-- the law holds where the evaluator says so -/
theorem walk {l : PySem.W.OpenLaw} {q : Program} {loose : List Str} {XP : (Str → Option Value) → Heap → Prop} {YP : World → Heap → Prop} {d : DefRec} (T : Tab) (k i : Nat) (hn : l.most = some 63) (hdf : d.params.defaults = []) (hr : Room (k + 1) callerA)
    (F : ∀ (w : World) (mg : Str → Option Value) (fa : Addr) (h : Heap), YP w h → h.Ns mainGlobals mg → mg d.name = some (.ref fa) → ∃ (C : Ctx) (N : Names), N.K.In h ∧ Sta C N T N.K mg ∧ C.fs[i]? = some (d.name, 1))
    (law : ∀ ns : List Int, ns.length ≤ 63 → (∀ z ∈ ns, Builtin.Int.intBits z ≤ 1048576) → ∃ s, (run T (k + 1)).call i [script ns] ⟨[], 0⟩ = .ok (.bl true) s) :
    PySem.W.WalkO q loose XP YP l.row.toRowW d [] (fun f vs => PySem.call f vs) := by
  refine Att.attach_callB hn hdf fun w s₀ s₁ mg mb fa o pm cd doc a vs ns G Y ho hd hcd hmg hobj hints hlen hbits hg => ?_
  obtain ⟨C, N, KX, S, hi⟩ := F w mg fa _ Y G.T.g hmg
  obtain ⟨qual, params, body, scope, f0, fd0, ps0, Nn, fn, F0, hm0, FS, hB0, hT, l1, l2, l3, hc⟩ := (S.fn i d.name 1 hi).ex
  have e0 : f0 = fa := by rw [hmg] at hm0; cases hm0; rfl
  subst e0
  have hx : ∃ x, ps0 = [x] := by
    match ps0, l1 with
    | [x], _ => exact ⟨x, rfl⟩
  obtain ⟨x, rfl⟩ := hx
  refine top_call (sp := spM N (run T (k + 1)) i 1) KX G.T.g G.T.b G.T.builtins G.T.nolimit hg hobj hints (Nat.le_trans hlen (by rw [sizeLine_eq]; decide)) hr (fun base kb nb => fn_up rfl (lv_of (P := l.prog) (w := w) (base := base) rfl S k) F0 FS hT l1 l2 l3 hc) (hB0 s₁ [.ref a] KX rfl) fun H hS => ?_
  · obtain ⟨s, hs⟩ := law ns hlen hbits
    refine ⟨rfl, ⟨H, fun _ => none, fun _ => none⟩, ⟨[], 0⟩, [script ns], rh_start, .cons ?_ .nil, ?_⟩
    · exact ⟨a, _, rfl, hS, ints_dvs ns⟩
    · rw [hs]
      intro W' H' v _ _ dv
      exact dv
end Zd

/-! Zd: what the head says of the module, as the walk asks it. -/
namespace Zd
open PySem PySem.Spec PyProof.Rows L2
theorem lk_mem : ∀ {ps : List Str} {us : List Value} {n : Str}, ps.length = us.length → n ∈ ps → ((ps.zip us).lookup n).isSome = true
  | [], _, _, _, h => by cases h
  | p :: ps, [], _, e, _ => by cases e
  | p :: ps, u :: us, n, e, h => by
    rw [List.zip_cons_cons, List.lookup_cons]
    cases hb : n == p with
    | true => rfl
    | false =>
      refine lk_mem (by simpa using e) ?_
      rcases List.mem_cons.mp h with z | z
      · subst z; simp at hb
      · exact z
theorem fm_congr {α β : Type} {f g : α → Option β} : ∀ {l : List α}, (∀ a ∈ l, f a = g a) → l.filterMap f = l.filterMap g
  | [], _ => rfl
  | a :: l, h => by
    rw [List.filterMap_cons, List.filterMap_cons, h a List.mem_cons_self, fm_congr fun b hb => h b (List.mem_cons_of_mem _ hb)]
theorem lk_zip : ∀ {ps : List Str} {us : List Value}, ps.Nodup → ps.length = us.length → ps.filterMap (fun n => ((ps.zip us).lookup n).map (n, ·)) = ps.zip us
  | [], [], _, _ => rfl
  | [], _ :: _, _, e => by cases e
  | _ :: _, [], _, e => by cases e
  | p :: ps, u :: us, nd, e => by
    have nd' := List.nodup_cons.mp nd
    have ih := lk_zip (ps := ps) (us := us) nd'.2 (by simpa using e)
    rw [List.filterMap_cons]
    simp only [List.zip_cons_cons, List.lookup_cons, beq_self_eq_true, Option.map_some]
    congr 1
    refine Eq.trans (fm_congr fun n hn => ?_) ih
    have : (n == p) = false := by
      rw [beq_eq_false_iff_ne]
      intro z
      subst z
      exact nd'.1 hn
    rw [this]
theorem binds_all {K : PySem.W.Frag} {x qual : Str} {args : List Arg} {body : List Stmt} {scope : Scope} {f : Addr} {fd : FuncData} {ps : List Str} (F : FunD K x qual ⟨[], args, none, [], [], none, []⟩ body scope [] [] f fd) (hp : args.map (·.arg) = ps) (nd : ps.Nodup) : Binds K fd ps [] := by
  refine F.bindsN fun kV doc pm an cdv ct us hl => ?_
  have hf : ps.filter (fun n => ((ps.zip us).lookup n).isNone) = [] := by
    rw [List.filter_eq_nil_iff]
    intro n hn
    rw [Option.isNone_iff_eq_none]
    intro z
    have := lk_mem hl.symm hn
    rw [z] at this
    cases this
  have e0 : notAStandIn Value.none = pure () := rfl
  simp only [bindArgs, PySem.W.fnOf, List.map_nil, List.nil_append, hp]
  simp only [seqItems?, e0]
  simp [hl, hf]
  rw [lk_zip nd hl.symm]
/-- one def of the module: its text, its names, its code -/
def argsOk (p : Arguments) (n : Nat) (Nn : List Str) : Bool := match p with
  | ⟨[], args, none, [], [], none, []⟩ => decide (args.length = n) && decide ((args.map (·.arg)).Nodup) && decide (Nn.take n = args.map (·.arg))
  | _ => false
def scOk (sc : Scope) (Nn : List Str) (n : Nat) : Bool := decide (sc.kind = .function) && !sc.isCoroutine && !sc.isGenerator && decide Nn.Nodup && ((Nn.take n).all fun x => decide (sc.names.lookup x = some .local) || decide (sc.names.lookup x = some .cell)) && sc.names.all fun y => decide (y.2 ≠ .free)
def fnOk (C : Ctx) (d : He.DefD) (Nn : List Str) (fn : Fn) (x : Str) (n : Nat) : Bool :=
  decide (d.name = x) && decide (d.at_ = (x, none)) && d.dfl.isEmpty && d.kwd.isEmpty && argsOk d.params n Nn && scOk d.scope Nn n && decide (fn.np = n) && decide (Nn.length = fn.nn) && chkSs C ⟨Nn, d.scope, none⟩ fn.body d.body
def fnsOk (C : Ctx) : List He.DefD → List (List Str) → List Fn → List (Str × Nat) → Bool
  | [], [], [], [] => true
  | d :: ds, Nn :: Ns, fn :: fns, p :: ps => fnOk C d Nn fn p.1 p.2 && fnsOk C ds Ns fns ps
  | _, _, _, _ => false
theorem fnsOk_at {C : Ctx} : ∀ {ds : List He.DefD} {Ns : List (List Str)} {fns : List Fn} {ps : List (Str × Nat)}, fnsOk C ds Ns fns ps = true → ∀ (i : Nat) (x : Str) (n : Nat), ps[i]? = some (x, n) → ∃ d Nn fn, ds[i]? = some d ∧ fns[i]? = some fn ∧ fnOk C d Nn fn x n = true
  | [], [], [], [], _, i, x, n, h => by simp at h
  | d :: ds, Nn :: Ns, fn :: fns, p :: ps, h, i, x, n, e => by
    simp only [fnsOk, Bool.and_eq_true] at h
    cases i with
    | zero =>
      simp only [List.getElem?_cons_zero, Option.some.injEq] at e
      subst e
      exact ⟨d, Nn, fn, rfl, rfl, h.1⟩
    | succ i =>
      rw [List.getElem?_cons_succ] at e
      obtain ⟨d', N', f', a, b, c⟩ := fnsOk_at h.2 i x n e
      exact ⟨d', N', f', by rw [List.getElem?_cons_succ]; exact a, by rw [List.getElem?_cons_succ]; exact b, c⟩
  | [], [], [], _ :: _, h, _, _, _, _ => by simp [fnsOk] at h
  | [], [], _ :: _, _, h, _, _, _, _ => by simp [fnsOk] at h
  | [], _ :: _, _, _, h, _, _, _, _ => by simp [fnsOk] at h
  | _ :: _, [], _, _, h, _, _, _, _ => by simp [fnsOk] at h
  | _ :: _, _ :: _, [], _, h, _, _, _, _ => by simp [fnsOk] at h
  | _ :: _, _ :: _, _ :: _, [], h, _, _, _, _ => by simp [fnsOk] at h
theorem argsOk_at {p : Arguments} {n : Nat} {Nn : List Str} (h : argsOk p n Nn = true) : ∃ args, p = ⟨[], args, none, [], [], none, []⟩ ∧ args.length = n ∧ (args.map (·.arg)).Nodup ∧ Nn.take n = args.map (·.arg) := by
  unfold argsOk at h
  split at h
  · simp only [Bool.and_eq_true, decide_eq_true_eq] at h
    exact ⟨_, rfl, h.1.1, h.1.2, h.2⟩
  · cases h
/-- the facts that are asked of the head -/
def gloFa (c : Str × Con) : He.Fa := match c.2 with
  | .int i => .int c.1 i
  | .str z => .str c.1 z
  | _ => .glo c.1
def facts (C : Ctx) : List He.Fa := C.fs.map (fun p => .glo p.1) ++ C.gs.map gloFa ++ C.bl.map .free
def conOk : Con → Bool
  | .int _ => true
  | .str _ => true
  | _ => false
section
variable {C : Ctx} {T : Tab} {ds : List He.DefD} {Ns : List (List Str)} {K : PySem.W.Frag} {h : Heap} {mg : Str → Option Value}
theorem fact_mem {fa : List He.Fa} (c : He.SaysD fa ds K) {f : He.Fa} (hf : f ∈ fa) : f.ok K = true := by
  obtain ⟨i, hi⟩ := List.mem_iff_getElem?.mp hf
  exact c.fact i hi
theorem sta_fn (KX : K.In h) (G : h.Ns mainGlobals mg) {fa : List He.Fa} (c : He.SaysD fa ds K) (hfa : ∀ p ∈ C.fs, He.Fa.glo p.1 ∈ fa) (hk : fnsOk C ds Ns T.fns C.fs = true) (i : Nat) (x : Str) (n : Nat) (hi : C.fs[i]? = some (x, n)) : FaF C T K mg i x n := by
  obtain ⟨d, Nn, fn, h1, h2, h3⟩ := fnsOk_at hk i x n hi
  unfold fnOk at h3
  simp only [Bool.and_eq_true, decide_eq_true_eq, List.isEmpty_iff] at h3
  obtain ⟨⟨⟨⟨⟨⟨⟨⟨e1, e2⟩, e3⟩, e4⟩, e5⟩, e6⟩, e7⟩, e8⟩, e9⟩ := h3
  obtain ⟨fd, F⟩ := c.def_ i h1
  have gl := He.glo_ok KX G (fact_mem c (hfa _ (List.mem_of_getElem? hi)))
  have ef : He.fAd K d.at_ = He.ga K x := by rw [e2]; rfl
  have ed : d.dvs K = [] := by unfold He.DefD.dvs; rw [e3]; rfl
  have ek : d.kws K = [] := by unfold He.DefD.kws; rw [e4]; rfl
  rw [ef, ed, ek, e1] at F
  obtain ⟨args, p1, p2, p3, p4⟩ := argsOk_at e5
  rw [p1] at F
  unfold scOk at e6
  simp only [Bool.and_eq_true, decide_eq_true_eq, Bool.not_eq_true', List.all_eq_true, Bool.or_eq_true] at e6
  obtain ⟨⟨⟨⟨⟨s1, s2⟩, s3⟩, s4⟩, s5⟩, s6⟩ := e6
  have l : (args.map (·.arg)).length = n := by rw [List.length_map]; exact p2
  have FS : FnScope Nn (args.map (·.arg)) d.scope := ⟨s1, s2, s3, s4, by rw [l]; exact p4, fun y hy => s5 y (by rw [p4]; exact hy), fun y hy => by simpa using s6 y hy⟩
  exact ⟨_, _, _, _, _, _, _, Nn, fn, F, gl, FS, binds_all F rfl p3, h2, l, e7, e8, e9⟩
theorem clF0 {N : Names} : ClF K N 0 := ⟨fun c h => absurd h (Nat.not_lt_zero _), fun c h => absurd h (Nat.not_lt_zero _), fun h => absurd h (Nat.lt_irrefl _), fun h => absurd h (Nat.lt_irrefl _), fun c h => absurd h (Nat.not_lt_zero _), fun c h => absurd h (Nat.not_lt_zero _), fun c h => absurd h (Nat.not_lt_zero _), fun c h => absurd h (Nat.not_lt_zero _), fun c h => absurd h (Nat.not_lt_zero _)⟩
/-- a module without classes -/
theorem sta_of0 {N : Names} (KX : K.In h) (G : h.Ns mainGlobals mg) (c : He.SaysD (facts C) ds K) (hk : fnsOk C ds Ns T.fns C.fs = true) (hg : T.glo = C.gs.map (·.2)) (hc : C.gs.all (fun p => conOk p.2) = true) (h0 : T.ncl = 0) (hcs : C.cs = []) : Sta C N T K mg where
  fn := sta_fn KX G c (fun p hp => by simp only [facts, List.mem_append, List.mem_map]; exact .inl (.inl ⟨p, hp, rfl⟩)) hk
  gl := fun i x k hi => by
    have m := List.mem_of_getElem? hi
    refine ⟨by rw [hg, List.getElem?_map, hi]; rfl, ?_⟩
    have hok := fact_mem c (f := gloFa (x, k)) (by simp only [facts, List.mem_append, List.mem_map]; exact .inl (.inr ⟨_, m, rfl⟩))
    have hcc := List.all_eq_true.mp hc _ m
    cases k with
    | int j => obtain ⟨t, e⟩ := He.int_ok KX G hok; exact ⟨_, e, t, rfl⟩
    | str z => obtain ⟨t, e⟩ := He.str_ok KX G hok; exact ⟨_, e, t, rfl⟩
    | _ => cases hcc
  cl := by rw [h0]; exact clF0
  cm := fun c x e => by rw [hcs] at e; simp at e
  bl := fun x hx => He.free_ok KX G (fact_mem c (by simp only [facts, List.mem_append, List.mem_map]; exact .inr ⟨x, hx, rfl⟩))
end
end Zd

/-! Zd: plain facts of the evaluator; the law's own helpers. -/
namespace Zd
open PySem
theorem Sto.cut_all {s : Sto} {b : Nat} (h : s.size ≤ b) : s.cut b = s := by
  unfold Sto.cut
  rw [List.take_of_length_le]
  exact Nat.le_trans h (Nat.le_max_left _ _)
/-- what the law's draws come from -/
structure Bowl where
  g : Int
  m : Int
  c : Int
def Bowl.cell (B : Bowl) : Cell := .lst [.int B.g, .int B.m, .int B.c]
/-- the bowl is the first cell -/
def st (B : Bowl) (r : List Cell) : Sto := ⟨B.cell :: r, 0⟩
/-- it may be asked n times more -/
structure Bowl.Ok (B : Bowl) (n : Nat) : Prop where
  lo : 0 ≤ B.c
  hi : B.c + n < 2 ^ 60
theorem Bowl.Ok.mono {B : Bowl} {n m : Nat} (h : B.Ok n) (l : m ≤ n) : B.Ok m := ⟨h.lo, by have := h.hi; omega⟩
def spoonB : List St := [.ite (.cmp .gt (.idx (.var 0) (.con (.int (0)))) (.con (.int (0)))) [.asg (.nm 4) (.bin .mod (.blt .int [(.idx (.var 0) (.con (.int (0))))]) (.var 1)), .asgI (.var 0) (.con (.int (0))) (.bin .fdiv (.idx (.var 0) (.con (.int (0)))) (.var 1)), .ret (.var 4)] [], .asgI (.var 0) (.con (.int (2))) (.bin .add (.idx (.var 0) (.con (.int (2)))) (.con (.int (1)))), .asg (.nm 2) (.bin .mod (.blt .int [(.bin .add (.idx (.var 0) (.con (.int (1)))) (.bin .mul (.con (.int (1000507))) (.idx (.var 0) (.con (.int (2))))))]) (.con (.int (2305843009213693951)))), .asg (.nm 3) (.bin .add (.bin .mul (.bin .mod (.blt .int [(.bin .mul (.var 2) (.var 2))]) (.con (.int (2305843009213693921)))) (.var 2)) (.bin .mul (.con (.int (9151))) (.idx (.var 0) (.con (.int (2)))))), .ret (.bin .mod (.blt .int [(.bin .fdiv (.bin .mod (.blt .int [(.var 3)]) (.con (.int (2305843009213693907)))) (.con (.int (16384))))]) (.var 1))]
def bowlB : List St := [.asg (.nm 2) (.ite (.cmp .lt (.var 1) (.blt .len [(.var 0)])) (.idx (.var 0) (.var 1)) (.bin .add (.bin .mul (.con (.int (79))) (.var 1)) (.con (.int (47))))), .asg (.nm 3) (.bin .mod (.blt .int [(.blt .abs [(.var 2)])]) (.bin .pow (.bin .pow (.con (.int (10))) (.con (.int (47)))) (.con (.int (13))))), .asg (.nm 4) (.bin .add (.bin .add (.bin .add (.bin .mul (.bin .mod (.blt .int [(.var 3)]) (.con (.int (2147483137)))) (.con (.int (99347)))) (.bin .mul (.con (.int (8179))) (.var 1))) (.bin .mul (.con (.int (61))) (.blt .int [(.cmp .lt (.var 2) (.con (.int (0))))]))) (.con (.int (89)))), .ret (.mk (.lst [(.blt .max [(.con (.int (0))), (.bin .sub (.var 3) (.bin .pow (.con (.int (10))) (.con (.int (18)))))]), (.bin .mod (.blt .int [(.var 4)]) (.con (.int (2305843009213693907)))), (.con (.int (0)))]))]
theorem log_lt {i : Int} {n k : Nat} (h : i.natAbs < 2 ^ k) (hk : k ≤ n) (hn : 0 < n) : i.natAbs.log2 < n := by
  by_cases h0 : i.natAbs = 0
  · rw [h0]; exact hn
  · exact Nat.lt_of_lt_of_le ((Nat.log2_lt h0).mpr h) hk
theorem mulOk_of {i j : Int} {a b : Nat} (hi : i.natAbs < 2 ^ a) (hj : j.natAbs < 2 ^ b) (ha : a ≤ 400000) (hb : b ≤ 400000) : mulOk i j = true := by
  unfold mulOk
  have h1 := log_lt (n := 400001) hi (by omega) (by omega)
  have h2 := log_lt (n := 400001) hj (by omega) (by omega)
  exact decide_eq_true (by omega)
theorem spoon_call {T : Tab} {i k : Nat} (hT : T.fns[i]? = some ⟨2, 5, spoonB, false⟩) {B : Bowl} {r : List Cell} {t : Int} (hb : B.Ok 1) (ht : 0 < t) (ht2 : t < 2 ^ 60) :
    ∃ v B', (run T (k + 1)).call i [.loc 0, .int t] (st B r) = .ok (.int v) (st B' r) ∧ 0 ≤ v ∧ v < t ∧ B.c ≤ B'.c ∧ B'.c ≤ B.c + 1 := by
  obtain ⟨g, m, c⟩ := B
  obtain ⟨h1, h2⟩ := hb
  have h1 : 0 ≤ c := h1
  have h2 : c + 1 < 2 ^ 60 := h2
  have d : divOk t = true := by
    unfold divOk
    have := log_lt (i := t) (n := 9000) (k := 60) (by omega) (by omega) (by omega)
    simp [ht, this]
  by_cases hg : 0 < g
  · refine ⟨g % t, ⟨g / t, m, c⟩, ?_, Int.emod_nonneg _ (by omega), Int.emod_lt_of_pos _ ht, Int.le_refl _, by show c ≤ c + 1; omega⟩
    simp [run, hT, callFn, spoonB, st, Bowl.cell, exs, ex, ev, evs, D.idx, D.seq?, Sto.get, at?, D.cmp, D.truth, hg, D.bin, D.blt, ht, d, Tg.bind, Con.d, D.setI, fin, D.mx, Sto.put, Sto.cut, Sto.size, Cell.mx, D.mxs]
  · have e1 : (m + 1000507 * (c + 1)) % 2305843009213693951 < 2305843009213693951 := Int.emod_lt_of_pos _ (by omega)
    have e0 : 0 ≤ (m + 1000507 * (c + 1)) % 2305843009213693951 := Int.emod_nonneg _ (by omega)
    generalize ho : (m + 1000507 * (c + 1)) % 2305843009213693951 = o at e0 e1
    have m1 : mulOk 1000507 (c + 1) = true := mulOk_of (a := 20) (b := 60) (by decide) (by omega) (by omega) (by omega)
    have m2 : mulOk o o = true := mulOk_of (a := 62) (b := 62) (by omega) (by omega) (by omega) (by omega)
    have e2 : (o * o) % 2305843009213693921 < 2305843009213693921 := Int.emod_lt_of_pos _ (by omega)
    have e3 : 0 ≤ (o * o) % 2305843009213693921 := Int.emod_nonneg _ (by omega)
    have m3 : mulOk ((o * o) % 2305843009213693921) o = true := mulOk_of (a := 62) (b := 62) (by omega) (by omega) (by omega) (by omega)
    have m4 : mulOk 9151 (c + 1) = true := mulOk_of (a := 20) (b := 60) (by decide) (by omega) (by omega) (by omega)
    have d2 : divOk 16384 = true := by decide +kernel
    refine ⟨_, ⟨g, m, c + 1⟩, ?_, Int.emod_nonneg (((o * o % 2305843009213693921 * o + 9151 * (c + 1)) % 2305843009213693907) / 16384) (by omega), Int.emod_lt_of_pos _ ht, by show c ≤ c + 1; omega, Int.le_refl _⟩
    simp [run, hT, callFn, spoonB, st, Bowl.cell, exs, ex, ev, evs, D.idx, D.seq?, Sto.get, at?, D.cmp, D.truth, hg, D.bin, D.add, D.mul, D.blt, ht, d, Tg.bind, Con.d, D.setI, fin, D.mx, Sto.put, Sto.cut, Sto.size, Cell.mx, D.mxs, m1, ho, m2, m3, m4, d2]
@[simp] theorem ints_get (ns : List Int) (j : Nat) : (ns.map D.int)[j]? = (ns[j]?).map D.int := List.getElem?_map ..
theorem scr_idx {ns : List Int} {j : Int} {s : Sto} (h0 : 0 ≤ j) (h1 : j < (ns.length : Int)) : ∃ z, D.idx (.lck (ns.map D.int)) (.int j) s = some (.int z) := by
  have hl : j.toNat < ns.length := by omega
  refine ⟨ns[j.toNat], ?_⟩
  simp [D.idx, D.seq?, at?, h0, h1, hl]
theorem bowl_call {T : Tab} {i k : Nat} (hT : T.fns[i]? = some ⟨2, 5, bowlB, false⟩) {ns : List Int} {j : Int} (h0 : 0 ≤ j) (hj : j < 1000000) :
    ∃ g m : Int, (run T (k + 1)).call i [.lck (ns.map .int), .int j] ⟨[], 0⟩ = .ok (.loc 0) (st ⟨g, m, 0⟩ []) := by
  have m1 : mulOk 79 j = true := mulOk_of (a := 20) (b := 30) (by decide) (by omega) (by omega) (by omega)
  have m2 : mulOk 8179 j = true := mulOk_of (a := 20) (b := 30) (by decide) (by omega) (by omega) (by omega)
  have m4 : ∀ y : Int, mulOk (y % 2147483137) 99347 = true := fun y => mulOk_of (a := 40) (b := 20) (by have := Int.emod_lt_of_pos y (b := 2147483137) (by omega); have := Int.emod_nonneg y (b := 2147483137) (by omega); omega) (by decide) (by omega) (by omega)
  have m5 : ∀ x : Int, mulOk 61 (if x < 0 then 1 else 0) = true := fun x => by split <;> decide +kernel
  have p1 : powOk 10 47 = true := by decide +kernel
  have p2 : powOk 100000000000000000000000000000000000000000000000 13 = true := by decide +kernel
  have p3 : powOk 10 18 = true := by decide +kernel
  have main : ∀ x : Int, ∃ g m : Int, ∃ en, exs (run T k) (bowlB.drop 1) [some (.lck (ns.map .int)), some (.int j), some (.int x), none, none] ⟨[], 0⟩ = .ok (.ret (.loc 0)) en (st ⟨g, m, 0⟩ []) := by
    intro x
    simp [bowlB, st, Bowl.cell, exs, ex, ev, evs, D.cmp, D.truth, D.bin, D.add, D.mul, D.blt, Tg.bind, Con.d, m2, m4, m5, p1, p2, p3, lim, D.cell, Sto.new, Sto.size]
  have last : ∀ x : Int, exs (run T k) bowlB [some (.lck (ns.map .int)), some (.int j), none, none, none] ⟨[], 0⟩ = exs (run T k) (bowlB.drop 1) [some (.lck (ns.map .int)), some (.int j), some (.int x), none, none] ⟨[], 0⟩ →
      ∃ g m : Int, (run T (k + 1)).call i [.lck (ns.map .int), .int j] ⟨[], 0⟩ = .ok (.loc 0) (st ⟨g, m, 0⟩ []) := fun x e => by
    obtain ⟨g, m, en, h⟩ := main x
    refine ⟨g, m, ?_⟩
    have h2 := e.trans h
    simp [run, hT, callFn, h2, fin, D.mx, st, Bowl.cell, Sto.get, Cell.live, Cell.mx, D.mxs, Sto.cut, Sto.size, Sto.new]
  by_cases h1 : j < (ns.length : Int)
  · obtain ⟨z, hz⟩ := scr_idx (s := ⟨[], 0⟩) h0 h1
    refine last z ?_
    simp [bowlB, exs, ex, ev, evs, D.cmp, D.truth, D.blt, D.len, D.seq?, h1, hz, Tg.bind]
  · refine last (79 * j + 47) ?_
    simp [bowlB, exs, ex, ev, evs, D.cmp, D.truth, D.blt, D.len, D.seq?, h1, Tg.bind, D.bin, D.add, D.mul, m1, Con.d]
end Zd
namespace Zd
open PySem
/-! ### loops by a word -/
theorem forGo_inv {f : D → Env → Sto → RS} (P : Env → Sto → Prop) : ∀ {ds : List D} {en : Env} {s : Sto}, P en s → (∀ d ∈ ds, ∀ en s, P en s → ∃ en' s', f d en s = .ok .next en' s' ∧ P en' s') → ∃ en' s', forGo f ds en s = .ok .next en' s' ∧ P en' s'
  | [], en, s, h0, _ => ⟨en, s, rfl, h0⟩
  | d :: ds, en, s, h0, hs => by
    obtain ⟨en1, s1, h1, p1⟩ := hs d List.mem_cons_self en s h0
    obtain ⟨en2, s2, h2, p2⟩ := forGo_inv P p1 fun d hd => hs d (List.mem_cons_of_mem _ hd)
    exact ⟨en2, s2, by simp only [forGo, h1, h2], p2⟩
/-- the same where the turns are numbered -/
theorem forGo_num {f : D → Env → Sto → RS} (P : Nat → Env → Sto → Prop) : ∀ {ds : List D} {i : Nat} {en : Env} {s : Sto}, P i en s → (∀ j d, ds[j]? = some d → ∀ en s, P (i + j) en s → ∃ en' s', f d en s = .ok .next en' s' ∧ P (i + j + 1) en' s') → ∃ en' s', forGo f ds en s = .ok .next en' s' ∧ P (i + ds.length) en' s'
  | [], i, en, s, h0, _ => ⟨en, s, rfl, h0⟩
  | d :: ds, i, en, s, h0, hs => by
    obtain ⟨en1, s1, h1, p1⟩ := hs 0 d rfl en s h0
    obtain ⟨en2, s2, h2, p2⟩ := forGo_num (ds := ds) (i := i + 1) P p1 fun j d hd en s p => by
      have e : i + (j + 1) = i + 1 + j := by omega
      have := hs (j + 1) d (by simpa using hd) en s (by rw [e]; exact p)
      rw [e] at this
      exact this
    refine ⟨en2, s2, by simp only [forGo, h1, h2], ?_⟩
    have e : i + (d :: ds).length = i + 1 + ds.length := by simp; omega
    rw [e]
    exact p2
theorem compGo_inv {f : D → Sto → Res (Option D)} (P : List D → Sto → Prop) : ∀ {ds acc : List D} {s : Sto}, P acc s → acc.length + ds.length ≤ lim → (∀ d ∈ ds, ∀ acc s, P acc s → (∃ x s', f d s = .ok (some x) s' ∧ P (acc ++ [x]) s') ∨ ∃ s', f d s = .ok none s' ∧ P acc s') → ∃ xs s', compGo f ds acc s = .ok xs s' ∧ P xs s'
  | [], acc, s, h0, _, _ => ⟨acc, s, rfl, h0⟩
  | d :: ds, acc, s, h0, hl, hs => by
    rw [List.length_cons] at hl
    rcases hs d List.mem_cons_self acc s h0 with ⟨x, s1, h1, p1⟩ | ⟨s1, h1, p1⟩
    · obtain ⟨xs, s2, h2, p2⟩ := compGo_inv P p1 (by simp; omega) fun d hd => hs d (List.mem_cons_of_mem _ hd)
      exact ⟨xs, s2, by simp only [compGo, h1]; rw [if_pos (by omega)]; exact h2, p2⟩
    · obtain ⟨xs, s2, h2, p2⟩ := compGo_inv P p1 (by omega) fun d hd => hs d (List.mem_cons_of_mem _ hd)
      exact ⟨xs, s2, by simp only [compGo, h1]; exact h2, p2⟩
/-- a comprehension without draws -/
theorem compGo_map {f : D → Sto → Res (Option D)} {s : Sto} {g : D → Option D} : ∀ {ds acc : List D}, acc.length + ds.length ≤ lim → (∀ d ∈ ds, f d s = .ok (g d) s) → compGo f ds acc s = .ok (acc ++ ds.filterMap g) s
  | [], acc, _, _ => by simp [compGo]
  | d :: ds, acc, hl, hs => by
    rw [List.length_cons] at hl
    have h1 := hs d List.mem_cons_self
    cases hg : g d with
    | none =>
      rw [hg] at h1
      simp only [compGo, h1]
      rw [compGo_map (by omega) fun d hd => hs d (List.mem_cons_of_mem _ hd)]
      simp [hg]
    | some x =>
      rw [hg] at h1
      simp only [compGo, h1]
      rw [if_pos (by omega), compGo_map (by simp; omega) fun d hd => hs d (List.mem_cons_of_mem _ hd)]
      simp [hg]
theorem st_size {B : Bowl} {r : List Cell} : (st B r).size = r.length + 1 := rfl
theorem st_cut {B : Bowl} {r : List Cell} : (st B r).cut (r.length + 1) = st B r := Sto.cut_all (by rw [st_size]; exact Nat.le_refl _)
/-- a def that hands back a plain value -/
theorem call_ret {T : Tab} {i k : Nat} {fn : Fn} {ds : List D} {s s1 : Sto} {d : D} {en : Env} (hT : T.fns[i]? = some fn) (hl : ds.length = fn.np) (h : exs (run T k) fn.body (ds.map some ++ List.replicate (fn.nn - fn.np) none) s = .ok (.ret d) en s1) (hd : d.mx = 0) (hs : s1.size ≤ s.size) :
    (run T (k + 1)).call i ds s = .ok d s1 := by
  have e : (run T (k + 1)).call i ds s = callFn fn (run T k) ds s := by
    show (match T.fns[i]? with
      | some fn => callFn fn (run T k) ds s
      | none => .bad) = _
    rw [hT]
  rw [e]
  unfold callFn
  rw [if_pos hl, h]
  show fin s.size fn.frz d s1 = _
  unfold fin
  rw [if_pos (by rw [hd]; exact Nat.zero_le _), Sto.cut_all hs]
end Zd
namespace Zd
open PySem
/-- a comprehension's turn -/
def lcTurn (M : Sem) (own : List Nat) (t : Tg) (c : Option Ex) (e : Ex) (en : Env) (d : D) (s : Sto) : Res (Option D) := match t.bind d (wipe en own) with
  | none => .bad
  | some en2 => (evC M c en2 s).bind fun b s3 => if b then (ev M e en2 s3).bind fun x s4 => .ok (some x) s4 else .ok none s3
theorem ev_comp (M : Sem) (own : List Nat) (t : Tg) (it : It) (c : Option Ex) (e : Ex) (en : Env) (s : Sto) :
    ev M (.comp own t it c e) en s = (evIt M it en s).bind fun ds s1 => (compGo (lcTurn M own t c e en) ds [] s1).bind fun xs s2 => .ok (.lst xs) s2 := rfl
/-- a for's turn -/
def flTurn (M : Sem) (t : Tg) (b : List St) (d : D) (en : Env) (s : Sto) : RS := match t.bind d en with
  | some en3 => exs M b en3 s
  | none => .bad
theorem ex_for (M : Sem) (t : Tg) (it : It) (b : List St) (en : Env) (s : Sto) : ex M (.forS t it b) en s = (evIt M it en s).st en fun ds s1 => forGo (flTurn M t b) ds en s1 := rfl
theorem comp_map {M : Sem} {own : List Nat} {t : Tg} {it : It} {c : Option Ex} {e : Ex} {en : Env} {s : Sto} {ds : List D} (g : D → Option D) (hi : evIt M it en s = .ok ds s) (hl : ds.length ≤ lim) (h : ∀ d ∈ ds, lcTurn M own t c e en d s = .ok (g d) s) :
    ev M (.comp own t it c e) en s = .ok (.lst (ds.filterMap g)) s := by
  rw [ev_comp, hi]
  show (compGo (lcTurn M own t c e en) ds [] s).bind _ = _
  rw [compGo_map (by simpa using hl) h]
  simp
end Zd
namespace Zd
open PySem
theorem spoon_at {T : Tab} {i K : Nat} (hT : T.fns[i]? = some ⟨2, 5, spoonB, false⟩) (hK : 0 < K) {B : Bowl} {r : List Cell} {t : Int} (hb : B.Ok 1) (ht : 0 < t) (ht2 : t < 2 ^ 60) :
    ∃ v B', (run T K).call i [.loc 0, .int t] (st B r) = .ok (.int v) (st B' r) ∧ 0 ≤ v ∧ v < t ∧ B.c ≤ B'.c ∧ B'.c ≤ B.c + 1 := by
  obtain ⟨k, rfl⟩ : ∃ k, K = k + 1 := ⟨K - 1, by omega⟩
  exact spoon_call hT hb ht ht2
theorem call_at {T : Tab} {i K : Nat} {fn : Fn} {ds : List D} {s s1 : Sto} {d : D} {en : Env} (hT : T.fns[i]? = some fn) (hK : 0 < K) (hl : ds.length = fn.np) (h : exs (run T (K - 1)) fn.body (ds.map some ++ List.replicate (fn.nn - fn.np) none) s = .ok (.ret d) en s1) (hd : d.mx = 0) (hs : s1.size ≤ s.size) :
    (run T K).call i ds s = .ok d s1 := by
  obtain ⟨k, rfl⟩ : ∃ k, K = k + 1 := ⟨K - 1, by omega⟩
  exact call_ret hT hl h hd hs
end Zd
namespace Zd
open PySem
@[simp] theorem add_int (i j : Int) (s : Sto) : D.add (.int i) (.int j) s = some (.int (i + j)) := rfl
theorem add_lst {a b : List D} {s : Sto} (h : a.length + b.length ≤ lim) : D.add (.lst a) (.lst b) s = some (.lst (a ++ b)) := by
  show (if a.length + b.length ≤ lim then some (D.lst (a ++ b)) else none) = _
  rw [if_pos h]
end Zd
namespace Zd
open PySem
theorem call_cut {T : Tab} {i K : Nat} {fn : Fn} {ds : List D} {s s1 : Sto} {d : D} {en : Env} (hT : T.fns[i]? = some fn) (hK : 0 < K) (hl : ds.length = fn.np) (h : exs (run T (K - 1)) fn.body (ds.map some ++ List.replicate (fn.nn - fn.np) none) s = .ok (.ret d) en s1) (hd : d.mx = 0) :
    (run T K).call i ds s = .ok d (s1.cut s.size) := by
  obtain ⟨k, rfl⟩ : ∃ k, K = k + 1 := ⟨K - 1, by omega⟩
  have e : (run T (k + 1)).call i ds s = callFn fn (run T k) ds s := by
    show (match T.fns[i]? with
      | some fn => callFn fn (run T k) ds s
      | none => .bad) = _
    rw [hT]
  rw [e]
  unfold callFn
  rw [if_pos hl]
  have h : exs (run T k) fn.body (ds.map some ++ List.replicate (fn.nn - fn.np) none) s = .ok (.ret d) en s1 := h
  rw [h]
  show fin s.size fn.frz d s1 = _
  unfold fin
  rw [if_pos (by rw [hd]; exact Nat.zero_le _)]
theorem rng_mem {lo hi : Int} {d : D} (h : d ∈ rng lo hi) : ∃ j : Int, d = .int j ∧ lo ≤ j ∧ j < hi := by
  unfold rng at h
  obtain ⟨k, hk, rfl⟩ := List.mem_map.mp h
  rw [List.mem_range] at hk
  exact ⟨lo + k, rfl, by omega, by omega⟩
end Zd

namespace ZL
open PySem PySem.Spec PyProof.Rows L2 Zd
abbrev prog := PySem.Challenge.pw_huesenough_k00_integers_and_names
/-- is_integer: 0 value -/
def b0 : List Zd.St := [.ret (.and [(.isi (.var 0) .int), (.not (.isi (.var 0) .bool)), (.chain .le .le (.neg (.glo 1)) (.var 0) (.glo 1))])]
/-- is_name: 0 value, 1 letter -/
def b1 : List Zd.St := [.ite (.or [(.not (.isi (.var 0) .str)), (.not (.chain .le .le (.con (.int (1))) (.blt .len [(.var 0)]) (.glo 0)))]) [.ret (.con (.bl false))] [], .ret (.blt .all [(.comp [1] (.nm 1) (.val (.var 0)) none (.chain .le .le (.con (.str "a")) (.var 1) (.con (.str "z"))))])]
/-- _law_bowl: 0 _law_script, 1 _law_at, 2 _law_cell, 3 _law_great, 4 _law_mixed -/
def b2 : List Zd.St := [.asg (.nm 2) (.ite (.cmp .lt (.var 1) (.blt .len [(.var 0)])) (.idx (.var 0) (.var 1)) (.bin .add (.bin .mul (.con (.int (79))) (.var 1)) (.con (.int (47))))), .asg (.nm 3) (.bin .mod (.blt .int [(.blt .abs [(.var 2)])]) (.bin .pow (.bin .pow (.con (.int (10))) (.con (.int (47)))) (.con (.int (13))))), .asg (.nm 4) (.bin .add (.bin .add (.bin .add (.bin .mul (.bin .mod (.blt .int [(.var 3)]) (.con (.int (2147483137)))) (.con (.int (99347)))) (.bin .mul (.con (.int (8179))) (.var 1))) (.bin .mul (.con (.int (61))) (.blt .int [(.cmp .lt (.var 2) (.con (.int (0))))]))) (.con (.int (89)))), .ret (.mk (.lst [(.blt .max [(.con (.int (0))), (.bin .sub (.var 3) (.bin .pow (.con (.int (10))) (.con (.int (18)))))]), (.bin .mod (.blt .int [(.var 4)]) (.con (.int (2305843009213693907)))), (.con (.int (0)))]))]
/-- _law_spoon: 0 _law_bowl_here, 1 _law_total, 2 _law_one, 3 _law_two, 4 _law_found -/
def b3 : List Zd.St := [.ite (.cmp .gt (.idx (.var 0) (.con (.int (0)))) (.con (.int (0)))) [.asg (.nm 4) (.bin .mod (.blt .int [(.idx (.var 0) (.con (.int (0))))]) (.var 1)), .asgI (.var 0) (.con (.int (0))) (.bin .fdiv (.idx (.var 0) (.con (.int (0)))) (.var 1)), .ret (.var 4)] [], .asgI (.var 0) (.con (.int (2))) (.bin .add (.idx (.var 0) (.con (.int (2)))) (.con (.int (1)))), .asg (.nm 2) (.bin .mod (.blt .int [(.bin .add (.idx (.var 0) (.con (.int (1)))) (.bin .mul (.con (.int (1000507))) (.idx (.var 0) (.con (.int (2))))))]) (.con (.int (2305843009213693951)))), .asg (.nm 3) (.bin .add (.bin .mul (.bin .mod (.blt .int [(.bin .mul (.var 2) (.var 2))]) (.con (.int (2305843009213693921)))) (.var 2)) (.bin .mul (.con (.int (9151))) (.idx (.var 0) (.con (.int (2)))))), .ret (.bin .mod (.blt .int [(.bin .fdiv (.bin .mod (.blt .int [(.var 3)]) (.con (.int (2305843009213693907)))) (.con (.int (16384))))]) (.var 1))]
/-- _law_taken: 0 _law_bowl_here, 1 _law_items -/
def b4 : List Zd.St := [.ret (.idx (.var 1) (.call 3 [(.var 0), (.blt .len [(.var 1)])]))]
/-- _law_letter: 0 _law_bowl_here -/
def b5 : List Zd.St := [.ret (.idx (.con (.str "abcdefghijklmnopqrstuvwxyz")) (.call 3 [(.var 0), (.con (.int (26)))]))]
/-- _law_is_name: 0 _law_value, 1 _law_sign -/
def b6 : List Zd.St := [.ite (.or [(.not (.isi (.var 0) .str)), (.cmp .eq (.blt .len [(.var 0)]) (.con (.int (0)))), (.cmp .gt (.blt .len [(.var 0)]) (.con (.int (8))))]) [.ret (.con (.bl false))] [], .ret (.cmp .eq (.comp [1] (.nm 1) (.val (.var 0)) (some (.cmp .notIn (.var 1) (.con (.str "abcdefghijklmnopqrstuvwxyz")))) (.var 1)) (.lst []))]
/-- _law_is_short: 0 _law_value -/
def b7 : List Zd.St := [.ret (.and [(.isi (.var 0) .int), (.not (.isi (.var 0) .bool)), (.cmp .lt (.bin .sub (.con (.int (0))) (.bin .pow (.con (.int (10))) (.con (.int (60))))) (.var 0)), (.cmp .lt (.var 0) (.bin .pow (.con (.int (10))) (.con (.int (60)))))])]
/-- _law_numbers: 0 _law_bowl_here, 1 _law_cell, 2 _law_great, 3 _law_near -/
def b8 : List Zd.St := [.asg (.tp [2, 3]) (.tup [(.bin .mod (.blt .int [(.var 1)]) (.bin .mul (.bin .pow (.con (.int (10))) (.con (.int (60)))) (.bin .pow (.con (.int (10))) (.con (.int (30)))))), (.bin .sub (.bin .add (.bin .pow (.con (.int (10))) (.con (.int (60)))) (.call 3 [(.var 0), (.con (.int (5)))])) (.con (.int (2))))]), .ret (.lst [(.var 2), (.bin .sub (.con (.int (0))) (.var 2)), (.var 3), (.bin .sub (.con (.int (0))) (.var 3)), (.bin .pow (.con (.int (10))) (.con (.int (60)))), (.bin .sub (.con (.int (0))) (.bin .pow (.con (.int (10))) (.con (.int (60))))), (.bin .sub (.bin .pow (.con (.int (10))) (.con (.int (60)))) (.con (.int (1)))), (.bin .sub (.con (.int (1))) (.bin .pow (.con (.int (10))) (.con (.int (60))))), (.con (.int (0))), (.bin .sub (.con (.int (0))) (.con (.int (1))))])]
/-- _law_texts: 0 _law_bowl_here, 1 _law_found, 2 _law_turn, 3 _law_text, 4 _law_spot, 5 _law_odd, 6 _law_at -/
def b9 : List Zd.St := [.asg (.nm 1) (.lst []), .forS (.nm 2) (.rng [(.con (.int (4)))]) [.asg (.nm 3) (.smeth .join (.con (.str "")) [(.comp [6] (.nm 6) (.rng [(.call 3 [(.var 0), (.con (.int (11)))])]) none (.call 5 [(.var 0)]))]), .asg (.nm 4) (.call 3 [(.var 0), (.bin .add (.blt .len [(.var 3)]) (.con (.int (1))))]), .asg (.nm 5) (.call 4 [(.var 0), (.lst [(.con (.str "A")), (.con (.str "Z")), (.con (.str "7")), (.con (.str " ")), (.con (.str "_")), (.con (.str "\n")), (.con (.str "@")), (.con (.str "?")), (.con (.str "`")), (.con (.str "{")), (.con (.str ".")), (.con (.str "*"))])]), .asg (.nm 1) (.bin .add (.var 1) (.lst [(.var 3), (.bin .add (.bin .add (.slc (.var 3) none (some (.var 4)) none) (.var 5)) (.slc (.var 3) (some (.var 4)) none none)), (.bin .add (.bin .add (.slc (.var 3) none (some (.var 4)) none) (.var 5)) (.slc (.var 3) (some (.bin .add (.var 4) (.con (.int (1))))) none none))]))], .ret (.var 1)]
/-- _law_cell_right: 0 _law_script, 1 _law_at, 2 _law_values, 3 _law_turn, 4 _law_bowl_here, 5 _law_cell, 6 _law_value, 7 _law_found, 8 _law_due -/
def b10 : List Zd.St := [.asg (.tp [4, 5]) (.tup [(.call 2 [(.var 0), (.var 1)]), (.bin .add (.bin .mul (.con (.int (41))) (.var 1)) (.con (.int (7))))]), .ite (.cmp .lt (.var 1) (.blt .len [(.var 0)])) [.asg (.nm 5) (.idx (.var 0) (.var 1))] [], .asg (.nm 2) (.bin .add (.call 8 [(.var 4), (.var 5)]) (.call 9 [(.var 4)])), .asg (.nm 2) (.bin .add (.var 2) (.lst [(.con (.bl true)), (.con (.bl false)), (.con (.non)), (.con (.str "1")), (.lst []), (.dct []), (.tup [(.lst [])]), (.tup [(.con (.int (0)))]), (.tup [(.con (.non))]), (.lst [(.con (.int (1)))]), (.dct [(.con (.str "a")), (.con (.int (1)))]), (.con (.str "abcdefgh")), (.con (.str "abcdefghi"))])), .forS (.nm 3) (.rng [(.con (.int (2)))]) [.forS (.nm 6) (.val (.var 2)) [.asg (.nm 7) (.lst [(.call 0 [(.var 6)]), (.call 1 [(.var 6)])]), .asg (.nm 8) (.lst [(.call 7 [(.var 6)]), (.call 6 [(.var 6)])]), .ite (.cmp .ne (.blt .repr [(.var 7)]) (.blt .repr [(.var 8)])) [.ret (.con (.bl false))] []]], .ret (.con (.bl true))]
/-- law: 0 _law_script, 1 _law_at -/
def b11 : List Zd.St := [.ite (.cmp .ne (.glo 0) (.con (.int (8)))) [.ret (.con (.bl false))] [], .forS (.nm 1) (.rng [(.blt .max [(.con (.int (1))), (.blt .min [(.con (.int (8))), (.blt .len [(.var 0)])])])]) [.ite (.not (.call 10 [(.var 0), (.var 1)])) [.ret (.con (.bl false))] []], .ret (.con (.bl true))]
def T : Zd.Tab where
  fns := [⟨1, 1, b0, false⟩, ⟨1, 2, b1, false⟩, ⟨2, 5, b2, false⟩, ⟨2, 5, b3, false⟩, ⟨2, 2, b4, false⟩, ⟨1, 1, b5, false⟩, ⟨1, 2, b6, false⟩, ⟨1, 1, b7, false⟩, ⟨2, 4, b8, false⟩, ⟨1, 7, b9, false⟩, ⟨2, 9, b10, false⟩, ⟨1, 2, b11, false⟩]
  glo := [.int (8), .int (999999999999999999999999999999999999999999999999999999999999)]
  ncl := 0
def C : Zd.Ctx where
  fs := [("is_integer", 1), ("is_name", 1), ("_law_bowl", 2), ("_law_spoon", 2), ("_law_taken", 2), ("_law_letter", 1), ("_law_is_name", 1), ("_law_is_short", 1), ("_law_numbers", 2), ("_law_texts", 1), ("_law_cell_right", 2), ("law", 1)]
  gs := [("MAX_LETTERS", .int (8)), ("GREATEST", .int (999999999999999999999999999999999999999999999999999999999999))]
  cs := []
  bl := ["abs", "all", "bool", "int", "isinstance", "len", "max", "min", "range", "repr", "str"]
def Ns : List (List Str) := [["value"],
  ["value", "letter"],
  ["_law_script", "_law_at", "_law_cell", "_law_great", "_law_mixed"],
  ["_law_bowl_here", "_law_total", "_law_one", "_law_two", "_law_found"],
  ["_law_bowl_here", "_law_items"],
  ["_law_bowl_here"],
  ["_law_value", "_law_sign"],
  ["_law_value"],
  ["_law_bowl_here", "_law_cell", "_law_great", "_law_near"],
  ["_law_bowl_here", "_law_found", "_law_turn", "_law_text", "_law_spot", "_law_odd", "_law_at"],
  ["_law_script", "_law_at", "_law_values", "_law_turn", "_law_bowl_here", "_law_cell", "_law_value", "_law_found", "_law_due"],
  ["_law_script", "_law_at"]]
def defs1 : Stmt → List He.DefD
  | .FunctionDef n a b [] _ _ sc _ _ _ => [⟨(n, none), n, n, a, b, sc, [], []⟩]
  | _ => []
def ds : List He.DefD := prog.main.body.flatMap defs1
theorem chk : fnsOk C ds Ns T.fns C.fs = true := by decide +kernel
end ZL

namespace ZL
open PySem Zd
abbrev alph : Str := "abcdefghijklmnopqrstuvwxyz"
theorem alph_at : ∀ j : Fin 26, alph.cps[j.val]? = some (97 + j.val) := by decide +kernel
theorem alph_len : alph.length = 26 := by decide +kernel
/-- the signs that the law draws -/
def signs : List Nat := (List.range 26).map (97 + ·) ++ [65, 90, 55, 32, 95, 10, 64, 63, 96, 123, 46, 42, 49]
def GoodS (x : Str) : Prop := (∀ c ∈ x.cps.toList, c ∈ signs) ∧ x.length ≤ 40
inductive Good : D → Prop where
  | int (i : Int) : Good (.int i)
  | str (x : Str) (h : GoodS x) : Good (.str x)
  | bl (b : Bool) : Good (.bl b)
  | non : Good .non
  | tup (ds : List D) : Good (.tup ds)
  | lst (ds : List D) : Good (.lst ds)
  | dct (ks vs : List D) : Good (.dct ks vs)
theorem fn0 : T.fns[0]? = some ⟨1, 1, b0, false⟩ := rfl
theorem fn7 : T.fns[7]? = some ⟨1, 1, b7, false⟩ := rfl
theorem fn1 : T.fns[1]? = some ⟨1, 2, b1, false⟩ := rfl
theorem fn6 : T.fns[6]? = some ⟨1, 2, b6, false⟩ := rfl
theorem glo0 (k : Nat) : (run T k).glo 0 = some (.int 8) := by cases k <;> rfl
theorem glo1 (k : Nat) : (run T k).glo 1 = some (.int 999999999999999999999999999999999999999999999999999999999999) := by cases k <;> rfl
theorem pow60 : powOk 10 60 = true := by decide +kernel
/-- is_integer, both -/
theorem is_int (k : Nat) (v : D) (hv : Good v) (s : Sto) : ∃ b, (run T (k + 1)).call 0 [v] s = .ok (.bl b) s ∧ (run T (k + 1)).call 7 [v] s = .ok (.bl b) s := by
  have go : ∀ b, exs (run T k) b0 [some v] s = .ok (.ret (.bl b)) [some v] s → exs (run T k) b7 [some v] s = .ok (.ret (.bl b)) [some v] s →
      ∃ b, (run T (k + 1)).call 0 [v] s = .ok (.bl b) s ∧ (run T (k + 1)).call 7 [v] s = .ok (.bl b) s := fun b h1 h2 => ⟨b, call_ret fn0 rfl h1 rfl (Nat.le_refl _), call_ret fn7 rfl h2 rfl (Nat.le_refl _)⟩
  cases hv with
  | int i =>
    by_cases h1 : -999999999999999999999999999999999999999999999999999999999999 ≤ i
    · by_cases h2 : i ≤ 999999999999999999999999999999999999999999999999999999999999
      · refine go true ?_ ?_
        · simp [b0, exs, ex, ev, evs, evAnd, TyR.is, TyR.isB, D.truth, D.neg, D.cmp, glo1, h1, h2]
        · have l1 : -1000000000000000000000000000000000000000000000000000000000000 < i := by omega
          have l2 : i < 1000000000000000000000000000000000000000000000000000000000000 := by omega
          simp [b7, exs, ex, ev, evs, evAnd, TyR.is, TyR.isB, D.truth, D.cmp, D.bin, Con.d, pow60, l1, l2]
      · refine go false ?_ ?_
        · simp [b0, exs, ex, ev, evs, evAnd, TyR.is, TyR.isB, D.truth, D.neg, D.cmp, glo1, h1, h2]
        · simp [b7, exs, ex, ev, evs, evAnd, TyR.is, TyR.isB, D.truth, D.cmp, D.bin, Con.d, pow60]
          have : -1000000000000000000000000000000000000000000000000000000000000 < i := by omega
          simp [this]
          omega
    · refine go false ?_ ?_
      · simp [b0, exs, ex, ev, evs, evAnd, TyR.is, TyR.isB, D.truth, D.neg, D.cmp, glo1, h1]
      · have : ¬ -1000000000000000000000000000000000000000000000000000000000000 < i := by omega
        simp [b7, exs, ex, ev, evs, evAnd, TyR.is, TyR.isB, D.truth, D.cmp, D.bin, Con.d, pow60, this]
  | bl b => refine go false ?_ ?_ <;> simp [b0, b7, exs, ex, ev, evs, evAnd, TyR.is, TyR.isB, D.truth]
  | str x h => refine go false ?_ ?_ <;> simp [b0, b7, exs, ex, ev, evs, evAnd, TyR.is, TyR.isB, D.truth]
  | non => refine go false ?_ ?_ <;> simp [b0, b7, exs, ex, ev, evs, evAnd, TyR.is, TyR.isB, D.truth]
  | tup ds => refine go false ?_ ?_ <;> simp [b0, b7, exs, ex, ev, evs, evAnd, TyR.is, TyR.isB, D.truth]
  | lst ds => refine go false ?_ ?_ <;> simp [b0, b7, exs, ex, ev, evs, evAnd, TyR.is, TyR.isB, D.truth]
  | dct ks vs => refine go false ?_ ?_ <;> simp [b0, b7, exs, ex, ev, evs, evAnd, TyR.is, TyR.isB, D.truth]
/-! ### names -/
def low (c : Nat) : Bool := decide (97 ≤ c) && decide (c ≤ 122)
theorem sign_le : ∀ c ∈ signs, (strLe "a" ⟨#[c]⟩ = decide (97 ≤ c)) ∧ (strLe ⟨#[c]⟩ "z" = decide (c ≤ 122)) ∧ strIn ⟨#[c]⟩ alph = low c ∧ PyData.strOk ⟨#[c]⟩ = true := by decide +kernel
theorem all_low : ∀ cs : List Nat, (cs.map low).all id = cs.all low
  | [] => rfl
  | c :: cs => by simp [all_low cs]
theorem bools_map : ∀ cs : List Nat, D.bools (cs.map fun c => D.bl (low c)) = some (cs.map low)
  | [] => rfl
  | c :: cs => by simp [D.bools, bools_map cs]
theorem eqOks_signs : ∀ {cs : List Nat}, (∀ c ∈ cs, c ∈ signs) → D.eqOks (cs.map fun c => D.str ⟨#[c]⟩) = true
  | [], _ => rfl
  | c :: cs, h => by
    simp only [List.map_cons, D.eqOks, D.eqOk, Bool.and_eq_true]
    exact ⟨(sign_le c (h c List.mem_cons_self)).2.2.2, eqOks_signs fun c hc => h c (List.mem_cons_of_mem _ hc)⟩
theorem depths_signs : ∀ cs : List Nat, D.depths (cs.map fun c => D.str ⟨#[c]⟩) = 0
  | [] => rfl
  | c :: cs => by simp [D.depths, D.depth, depths_signs cs]
theorem is_nam (k : Nat) (v : D) (hv : Good v) (s : Sto) : ∃ b, (run T (k + 1)).call 1 [v] s = .ok (.bl b) s ∧ (run T (k + 1)).call 6 [v] s = .ok (.bl b) s := by
  have go : ∀ b, exs (run T k) b1 [some v, none] s = .ok (.ret (.bl b)) [some v, none] s → exs (run T k) b6 [some v, none] s = .ok (.ret (.bl b)) [some v, none] s →
      ∃ b, (run T (k + 1)).call 1 [v] s = .ok (.bl b) s ∧ (run T (k + 1)).call 6 [v] s = .ok (.bl b) s := fun b h1 h2 => ⟨b, call_ret fn1 rfl h1 rfl (Nat.le_refl _), call_ret fn6 rfl h2 rfl (Nat.le_refl _)⟩
  cases hv with
  | str x h =>
    have hl : x.length ≤ 1000000 := by have := h.2; omega
    have hc : x.cps.toList.length = x.length := Array.length_toList
    by_cases h0 : 1 ≤ x.length ∧ x.length ≤ 8
    · obtain ⟨h1, h2⟩ := h0
      have n1 : ((1 : Int) ≤ x.length) = True := by simp; omega
      have n2 : ((x.length : Int) ≤ 8) = True := by simp; omega
      have gm : ∀ c, c ∈ x.cps.toList → c ∈ signs := h.1
      refine go (x.cps.toList.all low) ?_ ?_
      · have hcomp : ev (run T k) (.comp [1] (.nm 1) (.val (.var 0)) none (.chain .le .le (.con (.str "a")) (.var 1) (.con (.str "z")))) [some (.str x), none] s = .ok (.lst (x.cps.toList.map fun c => D.bl (low c))) s := by
          rw [comp_map (ds := x.cps.toList.map (fun c => D.str ⟨#[c]⟩)) (fun d => match d with
            | .str y => some (.bl (low ((y.cps.toList[0]?).getD 0)))
            | _ => none) (by simp [evIt, ev, D.items]) (by simp [lim] at hc ⊢; omega) ?_]
          · rw [List.filterMap_map]
            have : (((fun d => match d with
              | D.str y => some (D.bl (low ((y.cps.toList[0]?).getD 0)))
              | _ => none) ∘ fun c => D.str ⟨#[c]⟩) : Nat → Option D) = fun c => some (D.bl (low c)) := by
              funext c
              simp
            rw [this, List.filterMap_eq_map']
          · intro d hd
            obtain ⟨c, hc, rfl⟩ := List.mem_map.mp hd
            obtain ⟨q1, q2, _, _⟩ := sign_le c (gm c hc)
            by_cases c1 : 97 ≤ c
            · simp [lcTurn, Tg.bind, wipe, evC, ev, D.cmp, Con.d, q1, q2, c1, low]
            · simp [lcTurn, Tg.bind, wipe, evC, ev, D.cmp, Con.d, q1, q2, c1, low]
        have e2 := bools_map x.cps.toList
        have e3 := all_low x.cps.toList
        simp [↓Res.bind, ↓RS.bind, ↓Res.st, ↓hcomp, b1, exs, ex, ev, evs, evOr, TyR.is, TyR.isB, D.truth, Con.d, D.blt, D.len, lim, hl, D.cmp, n1, n2, glo0, D.lst?, e2, e3]
      · have hcomp : ev (run T k) (.comp [1] (.nm 1) (.val (.var 0)) (some (.cmp .notIn (.var 1) (.con (.str alph)))) (.var 1)) [some (.str x), none] s = .ok (.lst ((x.cps.toList.filter fun c => !low c).map fun c => D.str ⟨#[c]⟩)) s := by
          rw [comp_map (ds := x.cps.toList.map (fun c => D.str ⟨#[c]⟩)) (fun d => match d with
            | .str y => if low ((y.cps.toList[0]?).getD 0) then none else some d
            | _ => none) (by simp [evIt, ev, D.items]) (by simp [lim] at hc ⊢; omega) ?_]
          · rw [List.filterMap_map]
            congr 2
            generalize x.cps.toList = cs
            induction cs with
            | nil => rfl
            | cons c cs ih =>
              rw [List.filterMap_cons, List.filter_cons]
              cases c1 : low c
              · simp [c1] at ih ⊢
                exact ih
              · simp [c1] at ih ⊢
                exact ih
          · intro d hd
            obtain ⟨c, hc, rfl⟩ := List.mem_map.mp hd
            obtain ⟨_, _, q3, _⟩ := sign_le c (gm c hc)
            cases c1 : low c
            · simp [lcTurn, Tg.bind, wipe, evC, ev, D.cmp, Con.d, q3, c1, D.truth]
            · simp [lcTurn, Tg.bind, wipe, evC, ev, D.cmp, Con.d, q3, c1, D.truth]
        have hok : D.eqOks ((x.cps.toList.filter fun c => !low c).map fun c => D.str ⟨#[c]⟩) = true := eqOks_signs fun c hc => gm c (List.mem_filter.mp hc).1
        have hdp := depths_signs (x.cps.toList.filter fun c => !low c)
        have z0 : ¬ x.length = 0 := by omega
        have z1 : ¬ (x.length : Int) = 0 := by omega
        have z2 : ¬ (8 : Int) < x.length := by omega
        have he : D.eqvs ((x.cps.toList.filter fun c => !low c).map fun c => D.str ⟨#[c]⟩) [] = x.cps.toList.all low := by
          generalize x.cps.toList = cs
          induction cs with
          | nil => rfl
          | cons c cs ih =>
            rw [List.filter_cons]
            cases c1 : low c
            · simp [c1, D.eqvs]
            · simp [c1]
              exact ih
        simp [↓Res.bind, ↓RS.bind, ↓Res.st, ↓hcomp, b6, exs, ex, ev, evs, evOr, TyR.is, TyR.isB, D.truth, Con.d, D.blt, D.len, lim, hl, D.cmp, D.eqV, eqRoom, D.eqOk, D.eqOks, D.depth, D.depths, D.eqv, D.res, z0, z1, z2, hok, hdp, he]
    · refine go false ?_ ?_
      · by_cases h1 : 1 ≤ x.length
        · have n1 : ((1 : Int) ≤ x.length) = True := by simp; omega
          have n2 : ((x.length : Int) ≤ 8) = False := by simp; omega
          simp [b1, exs, ex, ev, evs, evOr, TyR.is, TyR.isB, D.truth, Con.d, D.blt, D.len, lim, hl, D.cmp, n1, n2, glo0]
        · have n1 : ((1 : Int) ≤ x.length) = False := by simp; omega
          simp [b1, exs, ex, ev, evs, evOr, TyR.is, TyR.isB, D.truth, Con.d, D.blt, D.len, lim, hl, D.cmp, n1, glo0]
      · by_cases h1 : x.length = 0
        · simp [b6, exs, ex, ev, evs, evOr, TyR.is, TyR.isB, D.truth, Con.d, D.blt, D.len, lim, D.cmp, D.eqV, eqRoom, D.eqOk, D.depth, D.eqv, D.res, h1]
        · have z1 : ¬ (x.length : Int) = 0 := by omega
          have z2 : (8 : Int) < x.length := by omega
          simp [b6, exs, ex, ev, evs, evOr, TyR.is, TyR.isB, D.truth, Con.d, D.blt, D.len, lim, hl, D.cmp, D.eqV, eqRoom, D.eqOk, D.depth, D.eqv, D.res, z1, z2, h1]
  | int i => refine go false ?_ ?_ <;> simp [b1, b6, exs, ex, ev, evs, evOr, TyR.is, TyR.isB, D.truth, Con.d]
  | bl b => refine go false ?_ ?_ <;> simp [b1, b6, exs, ex, ev, evs, evOr, TyR.is, TyR.isB, D.truth, Con.d]
  | non => refine go false ?_ ?_ <;> simp [b1, b6, exs, ex, ev, evs, evOr, TyR.is, TyR.isB, D.truth, Con.d]
  | tup ds => refine go false ?_ ?_ <;> simp [b1, b6, exs, ex, ev, evs, evOr, TyR.is, TyR.isB, D.truth, Con.d]
  | lst ds => refine go false ?_ ?_ <;> simp [b1, b6, exs, ex, ev, evs, evOr, TyR.is, TyR.isB, D.truth, Con.d]
  | dct ks vs => refine go false ?_ ?_ <;> simp [b1, b6, exs, ex, ev, evs, evOr, TyR.is, TyR.isB, D.truth, Con.d]
/-! ### the draws -/
theorem fn3 : T.fns[3]? = some ⟨2, 5, spoonB, false⟩ := rfl
theorem fn2 : T.fns[2]? = some ⟨2, 5, bowlB, false⟩ := rfl
theorem fn4 : T.fns[4]? = some ⟨2, 2, b4, false⟩ := rfl
theorem fn5 : T.fns[5]? = some ⟨1, 1, b5, false⟩ := rfl
theorem fn8 : T.fns[8]? = some ⟨2, 4, b8, false⟩ := rfl
theorem fn9 : T.fns[9]? = some ⟨1, 7, b9, false⟩ := rfl
theorem letter (k : Nat) {B : Bowl} {r : List Cell} (hb : B.Ok 1) : ∃ c B', (run T (k + 2)).call 5 [.loc 0] (st B r) = .ok (.str ⟨#[c]⟩) (st B' r) ∧ 97 ≤ c ∧ c ≤ 122 ∧ B.c ≤ B'.c ∧ B'.c ≤ B.c + 1 := by
  obtain ⟨v, B', h, v0, v1, b0, b1⟩ := spoon_call (k := k) (r := r) (t := 26) fn3 hb (by omega) (by omega)
  have hv : v.toNat < 26 := by omega
  have a := alph_at ⟨v.toNat, hv⟩
  refine ⟨97 + v.toNat, B', call_ret (s1 := st B' r) (en := [some (.loc 0)]) fn5 rfl ?_ rfl (Nat.le_refl _), by omega, by omega, b0, b1⟩
  simp only [] at a
  have al := alph_len
  simp [↓Res.bind, ↓RS.bind, ↓Res.st, b5, exs, ex, ev, evs, Con.d, h, D.idx, at?, lim, v0, v1, al, a]
theorem taken (k : Nat) {B : Bowl} {r : List Cell} {ds : List D} (hb : B.Ok 1) (h0 : 0 < ds.length) (h1 : ds.length < 1000) (hm : ∀ d ∈ ds, d.mx = 0) : ∃ d B', (run T (k + 2)).call 4 [.loc 0, .lst ds] (st B r) = .ok d (st B' r) ∧ d ∈ ds ∧ B.c ≤ B'.c ∧ B'.c ≤ B.c + 1 := by
  obtain ⟨v, B', h, v0, v1, b0, b1⟩ := spoon_call (k := k) (r := r) (t := ds.length) fn3 hb (by omega) (by omega)
  have hv : v.toNat < ds.length := by omega
  have a : ds[v.toNat]? = some ds[v.toNat] := List.getElem?_eq_getElem hv
  refine ⟨ds[v.toNat], B', call_ret (s1 := st B' r) (en := [some (.loc 0), some (.lst ds)]) fn4 rfl ?_ (hm _ (List.getElem_mem hv)) (Nat.le_refl _), List.getElem_mem hv, b0, b1⟩
  simp [↓Res.bind, ↓RS.bind, ↓Res.st, b4, exs, ex, ev, evs, Con.d, D.blt, D.len, D.seq?, h, D.idx, at?, v0, v1, a]
/-- letters, one after another -/
theorem letters (k : Nat) {own : Zd.Env} {r : List Cell} : ∀ (n : Nat) {B : Bowl} {acc : List D} (ds : List D), ds.length = n → B.Ok n → acc.length + n ≤ lim →
    ∃ zs B', compGo (lcTurn (run T (k + 2)) [6] (.nm 6) none (.call 5 [.var 0]) (some (.loc 0) :: own)) ds acc (st B r) = .ok (acc ++ zs) (st B' r) ∧ (∃ cs : List Nat, zs = cs.map (fun c => D.str ⟨#[c]⟩) ∧ cs.length = n ∧ ∀ c ∈ cs, 97 ≤ c ∧ c ≤ 122) ∧ B.c ≤ B'.c ∧ B'.c ≤ B.c + n
  | 0, B, acc, ds, hl, hb, _ => by
    cases ds with
    | nil => exact ⟨[], B, by simp [compGo], ⟨[], rfl, rfl, by simp⟩, Int.le_refl _, by omega⟩
    | cons _ _ => cases hl
  | n + 1, B, acc, ds, hl, hb, ha => by
    cases ds with
    | nil => cases hl
    | cons d ds =>
      obtain ⟨c, B1, h, c0, c1, e0, e1⟩ := letter k (r := r) (hb.mono (Nat.le_add_left 1 n))
      have hb1 : B1.Ok n := ⟨by have := hb.lo; omega, by have := hb.hi; omega⟩
      obtain ⟨zs, B2, h2, ⟨cs, z1, z2, z3⟩, f0, f1⟩ := letters k (own := own) (r := r) n (B := B1) (acc := acc ++ [.str ⟨#[c]⟩]) ds (by simpa using hl) hb1 (by simp; omega)
      refine ⟨.str ⟨#[c]⟩ :: zs, B2, ?_, ⟨c :: cs, by simp [z1], by simp [z2], fun x hx => by
        rcases List.mem_cons.mp hx with rfl | hx
        · exact ⟨c0, c1⟩
        · exact z3 x hx⟩, by omega, by omega⟩
      have t : lcTurn (run T (k + 2)) [6] (.nm 6) none (.call 5 [.var 0]) (some (.loc 0) :: own) d (st B r) = .ok (some (.str ⟨#[c]⟩)) (st B1 r) := by
        simp [↓Res.bind, lcTurn, Tg.bind, wipe, evC, ev, evs, h]
      simp only [compGo, t]
      rw [if_pos (by omega), h2]
      simp
theorem strs_map : ∀ cs : List Nat, D.strs (cs.map fun c => D.str ⟨#[c]⟩) = some (cs.map fun c => (⟨#[c]⟩ : Str))
  | [] => rfl
  | c :: cs => by simp [D.strs, strs_map cs]
theorem app_list (a b : Str) : (a ++ b).cps.toList = a.cps.toList ++ b.cps.toList := by
  show (a.cps ++ b.cps).toList = _
  simp
theorem empty_list : ("" : Str).cps.toList = [] := by decide +kernel
theorem join_one : ∀ cs : List Nat, (Str.join "" (cs.map fun c => (⟨#[c]⟩ : Str))).cps.toList = cs
  | [] => rfl
  | [c] => rfl
  | c :: d :: cs => by
    have ih := join_one (d :: cs)
    have e : Str.join "" ((c :: d :: cs).map fun c => (⟨#[c]⟩ : Str)) = ⟨#[c]⟩ ++ "" ++ Str.join "" ((d :: cs).map fun c => (⟨#[c]⟩ : Str)) := rfl
    rw [e, app_list, app_list, ih, empty_list]
    rfl
theorem len_list (x : Str) : x.length = x.cps.toList.length := Array.length_toList.symm
theorem low_sign {c : Nat} (h0 : 97 ≤ c) (h1 : c ≤ 122) : c ∈ signs := by
  unfold signs
  rw [List.mem_append]
  left
  rw [List.mem_map]
  exact ⟨c - 97, by simp; omega, by omega⟩
theorem sum_one : ∀ cs : List Nat, ((cs.map fun c => (⟨#[c]⟩ : Str)).map (·.length)).sum = cs.length
  | [] => rfl
  | c :: cs => by
    have e : (⟨#[c]⟩ : Str).length = 1 := rfl
    simp only [List.map_cons, List.sum_cons, sum_one cs, e, List.length_cons]
    omega
def odds : List D := [(.str "A"), (.str "Z"), (.str "7"), (.str " "), (.str "_"), (.str "\n"), (.str "@"), (.str "?"), (.str "`"), (.str "{"), (.str "."), (.str "*")]
theorem odds_one : ∀ d ∈ odds, ∃ x : Str, d = .str x ∧ (∀ c ∈ x.cps.toList, c ∈ signs) ∧ x.length = 1 := by
  intro d hd
  simp only [odds, List.mem_cons, List.not_mem_nil, or_false] at hd
  rcases hd with rfl | rfl | rfl | rfl | rfl | rfl | rfl | rfl | rfl | rfl | rfl | rfl <;> exact ⟨_, rfl, by decide +kernel, by decide +kernel⟩
theorem odds_mx : ∀ d ∈ odds, d.mx = 0 := by
  intro d hd
  obtain ⟨x, rfl, _⟩ := odds_one d hd
  rfl
/-- parts of texts -/
theorem cut_list {x : Str} {lo hi : Option Int} : (⟨(cutL x.cps.toList lo hi).toArray⟩ : Str).cps.toList = cutL x.cps.toList lo hi := rfl
theorem cut_mem {xs : List Nat} {lo hi : Option Int} {c : Nat} (h : c ∈ cutL xs lo hi) : c ∈ xs := List.mem_of_mem_drop (List.mem_of_mem_take h)
theorem cut_lo {xs : List Nat} {i : Int} (h0 : 0 ≤ i) (h1 : i ≤ xs.length) : cutL xs none (some i) = xs.take i.toNat := by
  unfold cutL cutAt
  have : ¬ i < 0 := by omega
  have e : min i.toNat xs.length = i.toNat := by omega
  simp [this, e]
theorem cut_hi {xs : List Nat} {i : Int} (h0 : 0 ≤ i) : cutL xs (some i) none = xs.drop i.toNat := by
  unfold cutL cutAt
  have : ¬ i < 0 := by omega
  simp [this]
  by_cases h : i.toNat ≤ xs.length
  · rw [Nat.min_eq_left h, List.take_of_length_le (by simp)]
  · rw [Nat.min_eq_right (by omega), List.drop_of_length_le (Nat.le_refl _), List.drop_of_length_le (by omega)]
    simp
def GoodL (x : Str) (n : Nat) : Prop := (∀ c ∈ x.cps.toList, c ∈ signs) ∧ x.length ≤ n
theorem GoodL.app {x y : Str} {n m : Nat} (hx : GoodL x n) (hy : GoodL y m) : GoodL (x ++ y) (n + m) := by
  refine ⟨fun c h => ?_, ?_⟩
  · rw [app_list, List.mem_append] at h
    exact h.elim (hx.1 c) (hy.1 c)
  · have a := hx.2
    have b := hy.2
    rw [len_list] at a b ⊢
    rw [app_list, List.length_append]
    omega
theorem GoodL.cut {x : Str} {n : Nat} {lo hi : Option Int} (hx : GoodL x n) : GoodL ⟨(cutL x.cps.toList lo hi).toArray⟩ n := by
  refine ⟨fun c h => hx.1 c (cut_mem h), ?_⟩
  have a := hx.2
  rw [len_list] at a ⊢
  refine Nat.le_trans ?_ a
  show (cutL x.cps.toList lo hi).length ≤ _
  unfold cutL
  rw [List.length_take, List.length_drop]
  omega
def forBody : Zd.St → List Zd.St
  | .forS _ _ b => b
  | _ => []
def t9 : List Zd.St := forBody (b9[1])
theorem small_of {v : Int} (h0 : 0 ≤ v) (h1 : v < 1000) : small62 v = true := by
  unfold small62
  simp
  omega
theorem word (k : Nat) {own : Zd.Env} {B : Bowl} {r : List Cell} (hb : B.Ok 11) : ∃ x B', ev (run T (k + 2)) (.smeth .join (.con (.str "")) [(.comp [6] (.nm 6) (.rng [(.call 3 [(.var 0), (.con (.int (11)))])]) none (.call 5 [(.var 0)]))]) (some (.loc 0) :: own) (st B r) = .ok (.str x) (st B' r) ∧
    GoodL x 10 ∧ B.c ≤ B'.c ∧ B'.c ≤ B.c + 11 := by
  obtain ⟨v, B1, h, v0, v1, b0, b1⟩ := spoon_at (K := k + 2) (r := r) (t := 11) fn3 (by omega) (hb.mono (by omega)) (by omega) (by omega)
  have hb1 : B1.Ok v.toNat := ⟨by have := hb.lo; omega, by have := hb.hi; omega⟩
  obtain ⟨zs, B2, h2, ⟨cs, z1, z2, z3⟩, e0, e1⟩ := letters k (own := own) (r := r) v.toNat (B := B1) (acc := []) (rng 0 v) (by simp [rng]) hb1 (by simp [lim]; omega)
  subst z1
  have sm := small_of v0 (by omega)
  have sst := strs_map cs
  have sz := sum_one cs
  have hcomp : ev (run T (k + 2)) (.comp [6] (.nm 6) (.rng [(.call 3 [(.var 0), (.con (.int (11)))])]) none (.call 5 [(.var 0)])) (some (.loc 0) :: own) (st B r) = .ok (.lst (cs.map fun c => D.str ⟨#[c]⟩)) (st B2 r) := by
    rw [ev_comp]
    simp [↓Res.bind, evIt, ev, evs, Con.d, h, D.range, D.range1, sm, h2]
  refine ⟨Str.join "" (cs.map fun c => (⟨#[c]⟩ : Str)), B2, ?_, ⟨fun c hc => ?_, ?_⟩, by omega, by omega⟩
  · have e : ((cs.map fun c => (⟨#[c]⟩ : Str)).map (·.length)).sum + (cs.map fun c => (⟨#[c]⟩ : Str)).length * ("" : Str).length ≤ lim := by
      have e2 : ("" : Str).length = 0 := by decide +kernel
      rw [sz, e2]
      simp [lim]
      omega
    simp only [List.length_map] at e
    simp [↓Res.bind, ↓hcomp, ev, evs, Con.d, SM.takes, D.smeth, D.lst?, sst]
    simp at e
    rw [if_pos e]
  · rw [join_one] at hc
    obtain ⟨a, b⟩ := z3 c hc
    exact low_sign a b
  · rw [len_list, join_one]
    omega
theorem add_ok {x y : Str} {n m : Nat} (hx : GoodL x n) (hy : GoodL y m) (h : n + m ≤ 100) (s : Sto) : D.add (.str x) (.str y) s = some (.str (x ++ y)) := by
  have a := hx.2
  have b := hy.2
  simp only [D.add]
  rw [if_pos (by unfold lim; omega)]
theorem text_turn (k : Nat) {B : Bowl} {r : List Cell} (hb : B.Ok 13) {fs : List D} (hl : fs.length ≤ 100) (j : D) (x2 x3 x4 x5 x6 : Option D) :
    ∃ B' ts y3 y4 y5, flTurn (run T (k + 2)) (.nm 2) t9 j [some (.loc 0), some (.lst fs), x2, x3, x4, x5, x6] (st B r) = .ok .next [some (.loc 0), some (.lst (fs ++ ts)), some j, y3, y4, y5, x6] (st B' r) ∧ ts.length = 3 ∧
      (∀ d ∈ ts, ∃ x, d = .str x ∧ GoodS x) ∧ B.c ≤ B'.c ∧ B'.c ≤ B.c + 13 := by
  obtain ⟨x, B1, h1, g, p0, p1⟩ := word k (own := [some (.lst fs), some j, x3, x4, x5, x6]) (r := r) (hb.mono (by omega))
  have gl := g.2
  obtain ⟨v, B2, h2, v0, v1, q0, q1⟩ := spoon_at (K := k + 2) (B := B1) (r := r) (t := x.length + 1) fn3 (by omega) ⟨by have := hb.lo; omega, by have := hb.hi; omega⟩ (by omega) (by omega)
  obtain ⟨d, B3, h3, hd, w0, w1⟩ := taken k (B := B2) (r := r) (ds := odds) ⟨by have := hb.lo; omega, by have := hb.hi; omega⟩ (by decide) (by decide) odds_mx
  obtain ⟨o, rfl, o1, o2⟩ := odds_one d hd
  have go : GoodL o 1 := ⟨o1, by omega⟩
  have hx : x.length ≤ 1000000 := by omega
  have a1 := add_ok (g.cut (lo := none) (hi := some v)) go (by omega) (st B3 r)
  have a2 := add_ok ((g.cut (lo := none) (hi := some v)).app go) (g.cut (lo := some v) (hi := none)) (by omega) (st B3 r)
  have a3 := add_ok ((g.cut (lo := none) (hi := some v)).app go) (g.cut (lo := some (v + 1)) (hi := none)) (by omega) (st B3 r)
  have hf : fs.length ≤ 999997 := by omega
  have h3' : (run T (k + 2)).call 4 [.loc 0, .lst [(.str "A"), (.str "Z"), (.str "7"), (.str " "), (.str "_"), (.str "\n"), (.str "@"), (.str "?"), (.str "`"), (.str "{"), (.str "."), (.str "*")]] (st B2 r) = .ok (.str o) (st B3 r) := h3
  refine ⟨B3, [.str x, .str (⟨(cutL x.cps.toList none (some v)).toArray⟩ ++ o ++ ⟨(cutL x.cps.toList (some v) none).toArray⟩), .str (⟨(cutL x.cps.toList none (some v)).toArray⟩ ++ o ++ ⟨(cutL x.cps.toList (some (v + 1)) none).toArray⟩)], some (.str x), some (.int v), some (.str o), ?_, rfl, ?_, by omega, by omega⟩
  · simp [↓Res.bind, ↓RS.bind, ↓Res.st, ↓h1, flTurn, t9, forBody, b9, exs, ex, ev, evs, evO, Tg.bind, Con.d, D.blt, D.len, hx, h2, h3', lim, D.slc, D.int?, D.bin, a1, a2, a3]
    simp [D.add, D.lst?, lim, hf]
  · intro d hd
    simp only [List.mem_cons, List.not_mem_nil, or_false] at hd
    rcases hd with rfl | rfl | rfl
    · exact ⟨_, rfl, g.1, by omega⟩
    · have := ((g.cut (lo := none) (hi := some v)).app go).app (g.cut (lo := some v) (hi := none))
      exact ⟨_, rfl, this.1, by have := this.2; omega⟩
    · have := ((g.cut (lo := none) (hi := some v)).app go).app (g.cut (lo := some (v + 1)) (hi := none))
      exact ⟨_, rfl, this.1, by have := this.2; omega⟩
theorem texts (k : Nat) {B : Bowl} {r : List Cell} (hb : B.Ok 52) : ∃ B' ts, (run T (k + 3)).call 9 [.loc 0] (st B r) = .ok (.lst ts) (st B' r) ∧ ts.length = 12 ∧ (∀ d ∈ ts, ∃ x, d = .str x ∧ GoodS x) ∧ B.c ≤ B'.c ∧ B'.c ≤ B.c + 52 := by
  have lo := hb.lo
  have hi := hb.hi
  obtain ⟨en, s, h, fs, B1, x2, x3, x4, x5, x6, e1, e2, l1, g1, c0, c1⟩ := forGo_num (f := flTurn (run T (k + 2)) (.nm 2) t9) (ds := rng 0 4) (i := 0) (en := [some (.loc 0), some (.lst []), none, none, none, none, none]) (s := st B r)
    (fun i en s => ∃ fs B1 x2 x3 x4 x5 x6, en = [some (.loc 0), some (.lst fs), x2, x3, x4, x5, x6] ∧ s = st B1 r ∧ fs.length = 3 * i ∧ (∀ d ∈ fs, ∃ x, d = D.str x ∧ GoodS x) ∧ B.c ≤ B1.c ∧ B1.c ≤ B.c + 13 * i)
    ⟨[], B, none, none, none, none, none, rfl, rfl, rfl, by simp, Int.le_refl _, by omega⟩ (by
      rintro j d hd en s ⟨fs, B1, x2, x3, x4, x5, x6, rfl, rfl, l1, g1, c0, c1⟩
      have hj : j < 4 := (List.getElem?_eq_some_iff.mp hd).1
      obtain ⟨B2, ts, y3, y4, y5, h, lt, gt, d0, d1⟩ := text_turn k (B := B1) (r := r) ⟨by omega, by omega⟩ (fs := fs) (by omega) d x2 x3 x4 x5 x6
      refine ⟨_, _, h, fs ++ ts, B2, some d, y3, y4, y5, x6, rfl, rfl, by rw [List.length_append]; omega, fun z hz => ?_, by omega, by omega⟩
      rcases List.mem_append.mp hz with hz | hz
      · exact g1 z hz
      · exact gt z hz)
  subst e1 e2
  have l4 : (rng 0 4).length = 4 := rfl
  rw [l4] at l1 c1
  refine ⟨B1, fs, ?_, by omega, g1, by omega, by omega⟩
  refine call_at (s1 := st B1 r) (en := [some (.loc 0), some (.lst fs), x2, x3, x4, x5, x6]) fn9 (by omega) rfl ?_ ?_ (Nat.le_refl _)
  · have e : k + 3 - 1 = k + 2 := rfl
    have hfor : ex (run T (k + 2)) (.forS (.nm 2) (.rng [(.con (.int (4)))]) t9) [some (.loc 0), some (.lst []), none, none, none, none, none] (st B r) = .ok .next [some (.loc 0), some (.lst fs), x2, x3, x4, x5, x6] (st B1 r) := by
      rw [ex_for]
      have sm : small62 4 = true := by decide +kernel
      simp [↓Res.st, ↓Res.bind, evIt, evs, ev, Con.d, D.range, D.range1, sm, h]
    have hb9 : b9 = [.asg (.nm 1) (.lst []), .forS (.nm 2) (.rng [(.con (.int (4)))]) t9, .ret (.var 1)] := rfl
    rw [e, hb9]
    simp [↓Res.bind, ↓RS.bind, ↓Res.st, ↓hfor, exs, ex, ev, evs, lim, Tg.bind]
  · have : ∀ l : List D, (∀ d ∈ l, ∃ x, d = D.str x ∧ GoodS x) → D.mxs l = 0 := by
      intro l
      induction l with
      | nil => intro _; rfl
      | cons d l ih =>
        intro hl
        obtain ⟨x, rfl, _⟩ := hl d List.mem_cons_self
        simp only [D.mxs, D.mx, ih fun d hd => hl d (List.mem_cons_of_mem _ hd)]
        rfl
    exact this fs g1
theorem numbers (k : Nat) {B : Bowl} {r : List Cell} (hb : B.Ok 1) (z : Int) : ∃ B' ns, (run T (k + 2)).call 8 [.loc 0, .int z] (st B r) = .ok (.lst ns) (st B' r) ∧ ns.length = 10 ∧ (∀ d ∈ ns, ∃ i, d = .int i) ∧ B.c ≤ B'.c ∧ B'.c ≤ B.c + 1 := by
  obtain ⟨v, B1, h, v0, v1, b0, b1⟩ := spoon_at (K := k + 1) (r := r) (t := 5) fn3 (by omega) hb (by omega) (by omega)
  have p1 : powOk 10 30 = true := by decide +kernel
  have m1 : mulOk 1000000000000000000000000000000000000000000000000000000000000 1000000000000000000000000000000 = true := by decide +kernel
  obtain ⟨ns, hn, hl, hi⟩ : ∃ ns : List D, (∃ en, exs (run T (k + 1)) b8 [some (.loc 0), some (.int z), none, none] (st B r) = .ok (.ret (.lst ns)) en (st B1 r)) ∧ ns.length = 10 ∧ ∀ d ∈ ns, ∃ i, d = .int i := by
    refine ⟨[.int (z % (10 ^ 60 * 10 ^ 30)), .int (0 - z % (10 ^ 60 * 10 ^ 30)), .int (10 ^ 60 + v - 2), .int (0 - (10 ^ 60 + v - 2)), .int (10 ^ 60), .int (0 - 10 ^ 60), .int (10 ^ 60 - 1), .int (1 - 10 ^ 60), .int 0, .int (0 - 1)], ⟨[some (.loc 0), some (.int z), some (.int (z % (10 ^ 60 * 10 ^ 30))), some (.int (10 ^ 60 + v - 2))], ?_⟩, rfl, ?_⟩
    · simp [↓Res.bind, ↓RS.bind, ↓Res.st, b8, exs, ex, ev, evs, Con.d, D.blt, D.bin, D.mul, pow60, p1, m1, h, Tg.bind, lim]
    · intro d hd
      simp only [List.mem_cons, List.not_mem_nil, or_false] at hd
      rcases hd with rfl | rfl | rfl | rfl | rfl | rfl | rfl | rfl | rfl | rfl <;> exact ⟨_, rfl⟩
  obtain ⟨en, hn⟩ := hn
  refine ⟨B1, ns, call_at (s1 := st B1 r) (en := en) fn8 (by omega) rfl hn ?_ (Nat.le_refl _), hl, hi, b0, b1⟩
  have : ∀ l : List D, (∀ d ∈ l, ∃ i, d = D.int i) → D.mxs l = 0 := by
    intro l
    induction l with
    | nil => intro _; rfl
    | cons d l ih =>
      intro hl
      obtain ⟨x, rfl⟩ := hl d List.mem_cons_self
      simp only [D.mxs, D.mx, ih fun d hd => hl d (List.mem_cons_of_mem _ hd)]
      rfl
  exact this ns hi
theorem fn10 : T.fns[10]? = some ⟨2, 9, b10, false⟩ := rfl
theorem fn11 : T.fns[11]? = some ⟨1, 2, b11, false⟩ := rfl
theorem repr_two (a b : Bool) (s : Sto) : D.repr (.lst [.bl a, .bl b]) s = some (D.show (.lst [.bl a, .bl b])) := by
  have h : ((D.lst [.bl a, .bl b]).showOk && decide ((D.lst [.bl a, .bl b]).depth < 60) && decide ((D.lst [.bl a, .bl b]).show.length ≤ lim)) = true := by
    cases a <;> cases b <;> decide +kernel
  unfold D.repr
  exact if_pos h
def i10 : List Zd.St := forBody ((forBody (b10[4]))[0])
theorem inner (k : Nat) {B : Bowl} (scr ci vs : D) (j : Int) (x3 x6 x7 x8 : Option D) (d : D) (hd : Good d) :
    ∃ y7 y8, flTurn (run T (k + 3)) (.nm 6) i10 d [some scr, some (.int j), some vs, x3, some (.loc 0), some ci, x6, x7, x8] (st B []) = .ok .next [some scr, some (.int j), some vs, x3, some (.loc 0), some ci, some d, y7, y8] (st B []) := by
  obtain ⟨a, a1, a2⟩ := is_int (k + 2) d hd (st B [])
  obtain ⟨b, c1, c2⟩ := is_nam (k + 2) d hd (st B [])
  have a1 : (run T (k + 3)).call 0 [d] (st B []) = .ok (.bl a) (st B []) := a1
  have a2 : (run T (k + 3)).call 7 [d] (st B []) = .ok (.bl a) (st B []) := a2
  have c1 : (run T (k + 3)).call 1 [d] (st B []) = .ok (.bl b) (st B []) := c1
  have c2 : (run T (k + 3)).call 6 [d] (st B []) = .ok (.bl b) (st B []) := c2
  have r := repr_two a b (st B [])
  refine ⟨some (.lst [.bl a, .bl b]), some (.lst [.bl a, .bl b]), ?_⟩
  simp [↓Res.bind, ↓RS.bind, ↓Res.st, flTurn, i10, forBody, b10, exs, ex, ev, evs, Tg.bind, a1, a2, c1, c2, lim, D.blt, r, D.cmp, D.eqV, D.res, D.truth]
theorem good_s {x : Str} (h : ∀ c ∈ x.cps.toList, c ∈ signs) (hl : x.length ≤ 40) : Good (.str x) := .str x ⟨h, hl⟩
theorem cell_right (k : Nat) {ns : List Int} {j : Int} (h0 : 0 ≤ j) (hj : j < 1000) : (run T (k + 4)).call 10 [script ns, .int j] ⟨[], 0⟩ = .ok (.bl true) ⟨[], 0⟩ := by
  obtain ⟨g, m, hb⟩ := bowl_call (k := k + 2) (ns := ns) (j := j) fn2 h0 (by omega)
  have hb : (run T (k + 3)).call 2 [script ns, .int j] ⟨[], 0⟩ = .ok (.loc 0) (st ⟨g, m, 0⟩ []) := hb
  have m41 : mulOk 41 j = true := mulOk_of (a := 20) (b := 30) (by decide) (by omega) (by omega) (by omega)
  -- the value that is looked at
  obtain ⟨z, hz⟩ : ∃ z : Int, exs (run T (k + 3)) [.ite (.cmp .lt (.var 1) (.blt .len [(.var 0)])) [.asg (.nm 5) (.idx (.var 0) (.var 1))] []] [some (script ns), some (.int j), none, none, some (.loc 0), some (.int (41 * j + 7)), none, none, none] (st ⟨g, m, 0⟩ []) =
      .ok .next [some (script ns), some (.int j), none, none, some (.loc 0), some (.int z), none, none, none] (st ⟨g, m, 0⟩ []) := by
    by_cases h1 : j < (ns.length : Int)
    · obtain ⟨z, hz⟩ := scr_idx (s := st ⟨g, m, 0⟩ []) h0 h1
      refine ⟨z, ?_⟩
      simp [↓Res.bind, ↓RS.bind, ↓Res.st, exs, ex, ev, evs, script, D.cmp, D.truth, D.blt, D.len, D.seq?, h1, hz, Tg.bind]
    · refine ⟨41 * j + 7, ?_⟩
      simp [↓Res.bind, ↓RS.bind, ↓Res.st, exs, ex, ev, evs, script, D.cmp, D.truth, D.blt, D.len, D.seq?, h1, Tg.bind]
  obtain ⟨B1, n1, hn, ln, gn, p0, p1⟩ := numbers (k + 1) (B := ⟨g, m, 0⟩) (r := []) ⟨Int.le_refl _, by show (0 : Int) + ((1 : Nat) : Int) < 2 ^ 60; decide⟩ z
  have hn : (run T (k + 3)).call 8 [.loc 0, .int z] (st ⟨g, m, 0⟩ []) = .ok (.lst n1) (st B1 []) := hn
  have q0 : (0 : Int) ≤ B1.c := p0
  have q1 : B1.c ≤ 0 + 1 := p1
  obtain ⟨B2, t1, ht, lt, gt, _, _⟩ := texts k (B := B1) (r := []) ⟨q0, by omega⟩
  generalize hvs : n1 ++ t1 ++ [.bl true, .bl false, .non, .str "1", .lst [], .dct [] [], .tup [.lst []], .tup [.int 0], .tup [.non], .lst [.int 1], .dct [.str "a"] [.int 1], .str "abcdefgh", .str "abcdefghi"] = vs
  have gv : ∀ d ∈ vs, Good d := by
    intro d hd
    rw [← hvs] at hd
    simp only [List.mem_append, List.mem_cons, List.not_mem_nil, or_false] at hd
    rcases hd with (hd | hd) | hd
    · obtain ⟨i, rfl⟩ := gn d hd; exact .int i
    · obtain ⟨x, rfl, h⟩ := gt d hd; exact .str x h
    · rcases hd with rfl | rfl | rfl | rfl | rfl | rfl | rfl | rfl | rfl | rfl | rfl | rfl | rfl
      · exact .bl _
      · exact .bl _
      · exact .non
      · exact good_s (by decide +kernel) (by decide +kernel)
      · exact .lst _
      · exact .dct _ _
      · exact .tup _
      · exact .tup _
      · exact .tup _
      · exact .lst _
      · exact .dct _ _
      · exact good_s (by decide +kernel) (by decide +kernel)
      · exact good_s (by decide +kernel) (by decide +kernel)
  let P : Zd.Env → Sto → Prop := fun en s => ∃ x3 x6 x7 x8, en = [some (script ns), some (.int j), some (.lst vs), x3, some (.loc 0), some (.int z), x6, x7, x8] ∧ s = st B2 []
  have outer : ∀ d en s, P en s → ∃ en' s', flTurn (run T (k + 3)) (.nm 3) [.forS (.nm 6) (.val (.var 2)) i10] d en s = .ok .next en' s' ∧ P en' s' := by
    rintro d en s ⟨x3, x6, x7, x8, rfl, rfl⟩
    obtain ⟨en', s', h, x3', x6', x7', x8', rfl, rfl⟩ := forGo_inv (f := flTurn (run T (k + 3)) (.nm 6) i10) P (ds := vs) (en := [some (script ns), some (.int j), some (.lst vs), some d, some (.loc 0), some (.int z), x6, x7, x8]) (s := st B2 []) ⟨some d, x6, x7, x8, rfl, rfl⟩ (by
      rintro d' hd' en s ⟨x3, x6, x7, x8, rfl, rfl⟩
      obtain ⟨y7, y8, h⟩ := inner k (B := B2) (script ns) (.int z) (.lst vs) j x3 x6 x7 x8 d' (gv d' hd')
      exact ⟨_, _, h, x3, some d', y7, y8, rfl, rfl⟩)
    refine ⟨_, _, ?_, x3', x6', x7', x8', rfl, rfl⟩
    have hfor : ex (run T (k + 3)) (.forS (.nm 6) (.val (.var 2)) i10) [some (script ns), some (.int j), some (.lst vs), some d, some (.loc 0), some (.int z), x6, x7, x8] (st B2 []) = .ok .next [some (script ns), some (.int j), some (.lst vs), x3', some (.loc 0), some (.int z), x6', x7', x8'] (st B2 []) := by
      rw [ex_for]
      simp [↓Res.st, ↓Res.bind, evIt, ev, D.items, h]
    simp [↓RS.bind, flTurn, Tg.bind, exs, hfor]
  obtain ⟨en', s', h, x3', x6', x7', x8', rfl, rfl⟩ := forGo_inv P (ds := rng 0 2) (en := [some (script ns), some (.int j), some (.lst vs), none, some (.loc 0), some (.int z), none, none, none]) (s := st B2 []) ⟨none, none, none, none, rfl, rfl⟩ fun d _ en s p => outer d en s p
  have hfor : ex (run T (k + 3)) (.forS (.nm 3) (.rng [(.con (.int (2)))]) [.forS (.nm 6) (.val (.var 2)) i10]) [some (script ns), some (.int j), some (.lst vs), none, some (.loc 0), some (.int z), none, none, none] (st B2 []) = .ok .next [some (script ns), some (.int j), some (.lst vs), x3', some (.loc 0), some (.int z), x6', x7', x8'] (st B2 []) := by
    rw [ex_for]
    have sm : small62 2 = true := by decide +kernel
    simp [↓Res.st, ↓Res.bind, evIt, evs, ev, Con.d, D.range, D.range1, sm, h]
  have hc := call_cut (T := T) (i := 10) (K := k + 4) (ds := [script ns, .int j]) (s := ⟨[], 0⟩) (d := .bl true) (s1 := st B2 []) (en := [some (script ns), some (.int j), some (.lst vs), x3', some (.loc 0), some (.int z), x6', x7', x8']) fn10 (by omega) rfl ?_ rfl
  · exact hc
  · have e : k + 4 - 1 = k + 3 := rfl
    have e10 : b10 = [b10[0], .ite (.cmp .lt (.var 1) (.blt .len [(.var 0)])) [.asg (.nm 5) (.idx (.var 0) (.var 1))] [], b10[2], b10[3], .forS (.nm 3) (.rng [(.con (.int (2)))]) [.forS (.nm 6) (.val (.var 2)) i10], .ret (.con (.bl true))] := rfl
    have l1 : n1.length + t1.length ≤ lim := by unfold lim; omega
    have l2 : (n1 ++ t1).length + ([.bl true, .bl false, .non, .str "1", .lst [], .dct [] [], .tup [.lst []], .tup [.int 0], .tup [.non], .lst [.int 1], .dct [.str "a"] [.int 1], .str "abcdefgh", .str "abcdefghi"] : List D).length ≤ lim := by
      rw [List.length_append]
      have : ([.bl true, .bl false, .non, .str "1", .lst [], .dct [] [], .tup [.lst []], .tup [.int 0], .tup [.non], .lst [.int 1], .dct [.str "a"] [.int 1], .str "abcdefgh", .str "abcdefghi"] : List D).length = 13 := rfl
      unfold lim
      omega
    have a1 := add_lst (s := st B2 []) l1
    have a2 := add_lst (s := st B2 []) l2
    rw [hvs] at a2
    have hl1 : n1.length + t1.length ≤ 1000000 := by omega
    have hl2 : n1.length + t1.length ≤ 999987 := by omega
    have hvs2 : n1 ++ (t1 ++ [.bl true, .bl false, .non, .str "1", .lst [], .dct [] [], .tup [.lst []], .tup [.int 0], .tup [.non], .lst [.int 1], .dct [.str "a"] [.int 1], .str "abcdefgh", .str "abcdefghi"]) = vs := by rw [← List.append_assoc]; exact hvs
    have d0 : dctOf [] = some (.dct [] []) := rfl
    have d1 : dctOf [.str "a", .int 1] = some (.dct [.str "a"] [.int 1]) := by simp [dctOf, pairsOf, keysOk, D.isKey]
    have hite : ex (run T (k + 3)) (.ite (.cmp .lt (.var 1) (.blt .len [(.var 0)])) [.asg (.nm 5) (.idx (.var 0) (.var 1))] []) [some (script ns), some (.int j), none, none, some (.loc 0), some (.int (41 * j + 7)), none, none, none] (st ⟨g, m, 0⟩ []) =
        .ok .next [some (script ns), some (.int j), none, none, some (.loc 0), some (.int z), none, none, none] (st ⟨g, m, 0⟩ []) := by
      have hz : (ex (run T (k + 3)) (.ite (.cmp .lt (.var 1) (.blt .len [(.var 0)])) [.asg (.nm 5) (.idx (.var 0) (.var 1))] []) [some (script ns), some (.int j), none, none, some (.loc 0), some (.int (41 * j + 7)), none, none, none] (st ⟨g, m, 0⟩ [])).bind (fun en2 s2 => .ok .next en2 s2) = .ok .next [some (script ns), some (.int j), none, none, some (.loc 0), some (.int z), none, none, none] (st ⟨g, m, 0⟩ []) := hz
      cases hx : ex (run T (k + 3)) (.ite (.cmp .lt (.var 1) (.blt .len [(.var 0)])) [.asg (.nm 5) (.idx (.var 0) (.var 1))] []) [some (script ns), some (.int j), none, none, some (.loc 0), some (.int (41 * j + 7)), none, none, none] (st ⟨g, m, 0⟩ []) with
      | ok f en s => rw [hx] at hz; cases f <;> exact hz
      | exc c vs en s => rw [hx] at hz; exact hz
      | bad => rw [hx] at hz; exact hz
    rw [e, e10]
    simp [↓Res.bind, ↓RS.bind, ↓Res.st, ↓hite, ↓hfor, exs, b10, ex, ev, evs, Con.d, D.bin, D.mul, m41, hb, hn, ht, Tg.bind, lim, d0, d1, D.add, D.lst?, hl1, hl2, hvs2]
theorem law_ok : ∀ ns : List Int, ns.length ≤ 63 → (∀ z ∈ ns, Builtin.Int.intBits z ≤ 1048576) → ∃ s, (Zd.run T 61).call 11 [script ns] ⟨[], 0⟩ = .ok (.bl true) s := by
  intro ns hl _
  have hlen : (ns.length : Int) ≤ 63 := by omega
  generalize hn : maxI 1 (minI 8 ns.length) = n
  have n0 : 0 ≤ n := by rw [← hn]; unfold maxI minI; split <;> split <;> omega
  have n1 : n ≤ 8 := by rw [← hn]; unfold maxI minI; split <;> split <;> omega
  obtain ⟨en', s', h, x, rfl, rfl⟩ := forGo_inv (f := flTurn (run T 60) (.nm 1) (forBody (b11[1]))) (fun en s => ∃ x, en = [some (script ns), x] ∧ s = ⟨[], 0⟩) (ds := rng 0 n) (en := [some (script ns), none]) (s := ⟨[], 0⟩) ⟨none, rfl, rfl⟩ (by
    rintro d hd en s ⟨x, rfl, rfl⟩
    obtain ⟨j, rfl, j0, j1⟩ := rng_mem hd
    have hc : (run T 60).call 10 [script ns, .int j] ⟨[], 0⟩ = .ok (.bl true) ⟨[], 0⟩ := cell_right 56 (ns := ns) (j := j) j0 (by omega)
    refine ⟨[some (script ns), some (.int j)], ⟨[], 0⟩, ?_, _, rfl, rfl⟩
    simp [↓Res.bind, ↓RS.bind, ↓Res.st, flTurn, forBody, b11, exs, ex, ev, evs, Tg.bind, hc, D.truth])
  have sm := small_of n0 (by omega)
  refine ⟨_, call_cut (K := 61) (s1 := ⟨[], 0⟩) (en := [some (script ns), x]) fn11 (by omega) rfl ?_ rfl⟩
  have e11 : b11 = [b11[0], .forS (.nm 1) (.rng [(.blt .max [(.con (.int (1))), (.blt .min [(.con (.int (8))), (.blt .len [(.var 0)])])])]) (forBody (b11[1])), .ret (.con (.bl true))] := rfl
  have hfor : ex (run T 60) (.forS (.nm 1) (.rng [(.blt .max [(.con (.int (1))), (.blt .min [(.con (.int (8))), (.blt .len [(.var 0)])])])]) (forBody (b11[1]))) [some (script ns), none] ⟨[], 0⟩ = .ok .next [some (script ns), x] ⟨[], 0⟩ := by
    rw [ex_for]
    simp [↓Res.st, ↓Res.bind, evIt, evs, ev, Con.d, D.blt, D.len, script, D.seq?, hn, D.range, D.range1, sm]
    exact h
  rw [e11]
  simp [↓Res.bind, ↓RS.bind, ↓Res.st, ↓hfor, exs, b11, ex, ev, glo0, Con.d, D.cmp, D.res, D.eqV, eqRoom, D.eqOk, D.depth, D.eqv, D.truth]
end ZL

namespace ZL
open PySem PySem.Spec PyProof.Rows L2 Zd
abbrev R : PySem.W.OpenRow := PySem.W.OpenLaw.row PySem.Challenge.rw_huesenough_k00_integers_and_names
abbrev hk : PySem.W.Hook := He.hookD 6 (facts C) ds
def ob (s : PySem.W.SharedT) : He.AlD := He.obsDG 6 (facts C) ds (HandSHeadRun.getT s)
theorem ob_eq (s : PySem.W.SharedT) : ob s = hk.obs s.abs := He.obsDG_eq (HandSHeadRun.getT_eq s)
def loose : List Str := ["MAX_LETTERS", "GREATEST", "is_integer", "is_name", "_law_bowl", "_law_spoon", "_law_taken", "_law_letter", "_law_is_name", "_law_is_short", "_law_numbers", "_law_texts", "_law_cell_right"]
theorem run (w : World) : HandSHeadRun.RunEq R (PySem.W.view R.prog [15]) hk ob 40000 loose w := by
  intro os
  kernel_rfl
end ZL
open PySem PySem.W PySem.Calls PyProof.Rows
theorem PySem.Challenge.cw_huesenough_k00_integers_and_names_holds : PySem.Challenge.rw_huesenough_k00_integers_and_names.Holds := by
  w_on; o_law
  refine HandSHeadRun.head_any (r := OpenLaw.row PySem.Challenge.rw_huesenough_k00_integers_and_names) (q := view (OpenLaw.row PySem.Challenge.rw_huesenough_k00_integers_and_names).prog [15]) (H := ZL.hk) (ob := ZL.ob) (M := 40000) (loose := ZL.loose) (d := HandSHeadRun.topDef (OpenLaw.row PySem.Challenge.rw_huesenough_k00_integers_and_names).prog 15) (kwd := []) ZL.ob_eq
    (by kernel_rfl) (fun s => by kernel_rfl) ZL.run (by kernel_rfl) (by kernel_rfl) (by kernel_rfl) (by rfl) (by first | assumption | decide +kernel) (by decide +kernel) ⟨rfl, rfl, rfl, rfl, rfl, by decide +kernel⟩ ?hw ?hc
  case hw => w_witness2
  case hc =>
    refine Zd.walk (l := PySem.Challenge.rw_huesenough_k00_integers_and_names) ZL.T 60 11 rfl (by kernel_rfl) ⟨rfl, by decide, by decide⟩ ?F ZL.law_ok
    intro w mg fa h Y G hmg0
    obtain ⟨K, KX, c⟩ := Y
    refine ⟨ZL.C, ⟨⟨fun _ => 0, fun _ => "", K⟩, fun _ => []⟩, KX, Zd.sta_of0 KX G c ZL.chk rfl (by decide) rfl rfl, ?_⟩
    kernel_rfl

