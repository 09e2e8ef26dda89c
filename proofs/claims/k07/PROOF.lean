import PyProof.Rows.All
import Wide.All
import OpenK.AllK
import Wide.FinOn
import PySem.Syntax
import HandS.ForMost
import HandS.ForExc
import HandS.Wide
import HandS.Defaults
import HandS.TupAny
import HandS.Deep
import HandS.TupLe
import HandS.Flow
import HandS.Style
import HandS.SortInts
import HandS.Conv
import HandS.TupLen
import HandS.WordsDict
import HandS.More
import HandS.Flt
import HandS.Exc
import HandS.ExcOwn
import HandS.NoneIn
import HandS.Walk
import HandS.Zip
import HandS.Rev
import HandS.Iter
import HandS.Comp
import HandS.Small
import HandS.IsInst
import HandS.HeadHook2
import HandS.Head0
import HandS.Head1
import HandS.Head2
import HandS.HeadEnd
import HandS.EndBits
import PyProof.StrLaws
import PyProof.FitsInt
import Lean
import PySem.Challenge.RW_onerail_k07_worths_labels
set_option Elab.async false
set_option linter.all false
/-! OI0: values, the small language, its interpreter in value semantics. -/
namespace OI
open PySem (Str Operator CmpOp)
/-- a value, without identity -/
inductive PV where
  | non | bl (b : Bool) | int (i : Int) | str (s : Str)
  /-- t: its keys are tuples -/
  | tup (xs : List PV) | lst (xs : List PV) | dct (t : Bool) (ks vs : List PV)
  /-- what an iterator still yields -/
  | it (xs : List PV)
  /-- an exception of the text's class c with its fields' values -/
  | exc (c : Nat) (fs : List PV)
inductive Res (α : Type) where
  | ok (a : α) | exc (x : PV) | stuck
def Res.bind {α β : Type} (r : Res α) (f : α → Res β) : Res β := match r with
  | .ok a => f a
  | .exc x => .exc x
  | .stuck => .stuck
def need {α : Type} (c : Prop) [Decidable c] (r : Res α) : Res α := if c then r else .stuck
abbrev Env := List (Option PV)
def getV : Env → Nat → Res PV
  | [], _ => .stuck
  | (some v) :: _, 0 => .ok v
  | none :: _, 0 => .stuck
  | _ :: r, n + 1 => getV r n
def setV : Env → Nat → Option PV → Env
  | [], _, _ => []
  | _ :: r, 0, v => v :: r
  | a :: r, n + 1, v => a :: setV r n v
/-- targets -/
inductive Tg where
  | nm (i : Nat) | tp (ts : List Tg)
inductive Prim where
  | len | range | enumerate | zip | reversed | tuple | list | sorted | sum | min | max | abs | int | str | all | any | set | dict
  deriving DecidableEq
inductive Meth where
  | get | items | keys | values | index | count | join | split | startswith | isdigit | isascii | upper | replace | rstrip
  deriving DecidableEq
inductive Mut where
  | append | extend | insert | pop | sort | reverse | remove | update | clear
  deriving DecidableEq
inductive Ty where
  | int | bool | str | tuple | list | dict | cls (c : Nat)
  deriving DecidableEq
/-- a written key -/
inductive Kc where
  | i (n : Int) | s (x : String)
  deriving DecidableEq
/-- a place: slot x, or by another name y, what stands at k0 in it -/
structure Pr where
  x : Nat
  y : Option Nat := none
  k0 : List Kc := []
  deriving DecidableEq
inductive E where
  | int (n : Int) | str (s : String) | bl (b : Bool) | non
  | var (i : Nat)
  /-- the slot's value, moved out of it -/
  | mv (i : Nat)
  /-- e, what it borrows of slot i frozen -/
  | fz (i : Nat) (e : E)
  /-- e, which holds nothing to be changed -/
  | cln (e : E)
  /-- a constant of the module -/
  | gl (x : String) (v : PV)
  /-- d: how deep what is made is one's own -/
  | tup (d : Nat) (es : List E) | lst (d : Nat) (es : List E) | dct (t : Bool) (d : Nat) (es : List E)
  /-- two operands, from the left -/
  | bin (d : Nat) (op : Operator) (es : List E) | neg (a : E) | not (a : E)
  | and (a b : E) | or (a b : E) | ite (c a b : E)
  | cmp (op : CmpOp) (es : List E)
  /-- in (not in) a constant of the module, a tuple -/
  | inK (neg : Bool) (e : E) (x : String) (vs : List PV)
  /-- chains: all operands change nothing -/
  | chn (o1 o2 : CmpOp) (a b c : E)
  | item (es : List E)
  | slc (d : Nat) (a : E) (lo hi : Option E) | rev (d : Nat) (a : E)
  /-- a def of the text: args in the order in which they are worked, ix: the parameter of each -/
  | call (f : Nat) (args : List E) (ix : List Nat) (back : Option Pr)
  /-- what stands at a place, by its other name -/
  | pth (p : Pr)
  | prim (p : Prim) (d : Nat) (args : List E)
  /-- an iterator: only walked -/
  | itr (p : Prim) (args : List E)
  /-- list(range(..)), tuple(range(..)) -/
  | lrg (t : Bool) (args : List E)
  | meth (m : Meth) (args : List E)
  /-- a method that changes what stands at a path from a place on -/
  | mut (m : Mut) (p : Pr) (ks : List E) (args : List E)
  | lc (d : Nat) (elt : E) (t : Tg) (it : E) (cs : List E)
  | lc2 (d : Nat) (elt : E) (t : Tg) (it : E) (t2 : Tg) (it2 : E) (cs : List E)
  | dc (d : Nat) (k v : E) (t : Tg) (it : E) (cs : List E)
  | isi (e : E) (ts : List Ty)
  | fld (e : E) (c : Nat) (f : Nat)
/-- what a slot's value is: it holds nothing to be changed; so many of its outer levels are one's own -/
inductive Tp where
  | cl | d (n : Nat)
  deriving DecidableEq
inductive Gt where
  | dead | t (τ : Tp) | al (x : Nat) (ks : List Kc)
  deriving DecidableEq
inductive S where
  | expr (e : E) | asg (t : Tg) (e : E) | pass | brk | cnt | ret (e : E) | retN
  /-- y = x[k1]..[kn] (written keys), another name of an owned thing -/
  | als (y x : Nat) (ks : List Kc)
  /-- p[k1]..[kn] = e -/
  | set (p : Pr) (ks : List E) (e : E)
  | aug (i : Nat) (op : Operator) (e : E) | augI (p : Pr) (ks : List E) (op : Operator) (e : E)
  | del (p : Pr) (ks : List E)
  /-- a, b, .. = x, y, .. -/
  | par (is : List Nat) (es : List E)
  /-- ws: what is forgotten behind each way, at each turn -/
  | ite (ws : List (Nat × Gt)) (c : E) (a b : List S) | whl (ws : List (Nat × Gt)) (c : E) (b : List S) | for_ (ws : List (Nat × Gt)) (t : Tg) (it : E) (b : List S)
  | raise (c : Nat) (args : List E)
  | try_ (ws : List (Nat × Gt)) (b : List S) (hs : List S)
  /-- a clause of a try: the classes that it takes (with those below them), its name's slot -/
  | hnd (cls : List Nat) (nm : Option Nat) (h : List S)
/-! ### values -/
def truth : PV → Res Bool
  | .non => .ok false
  | .bl b => .ok b
  | .int i => .ok (decide (i ≠ 0))
  | .str s => need (s.length ≤ 16777216) (.ok (decide (s.length ≠ 0)))
  | .tup xs => .ok (!xs.isEmpty)
  | .lst xs => .ok (!xs.isEmpty)
  | _ => .stuck
def charsP (s : Str) : List PV := s.cps.toList.map fun c => .str ⟨#[c]⟩
def itemsOf : PV → Res (List PV)
  | .tup xs => .ok xs
  | .lst xs => .ok xs
  | .it xs => .ok xs
  | .str s => .ok (charsP s)
  | _ => .stuck
mutual
/-- == of data -/
def eqP : PV → PV → Bool
  | .non, .non => true
  | .bl a, .bl b => a == b
  | .bl a, .int b => (if a then 1 else 0) == b
  | .int a, .bl b => a == (if b then 1 else 0)
  | .int a, .int b => a == b
  | .str a, .str b => a == b
  | .tup a, .tup b => eqPs a b
  | .lst a, .lst b => eqPs a b
  | _, _ => false
def eqPs : List PV → List PV → Bool
  | [], [] => true
  | a :: as, b :: bs => eqP a b && eqPs as bs
  | _, _ => false
end
/-- plain data, nested at most n deep -/
def shp : Nat → PV → Bool
  | 0, _ => false
  | _ + 1, .non => true
  | _ + 1, .bl _ => true
  | _ + 1, .int _ => true
  | _ + 1, .str x => x.cps.all (· < 0x110000)
  | n + 1, .tup xs => xs.all (shp n)
  | n + 1, .lst xs => xs.all (shp n)
  | _ + 1, _ => false
abbrev shp0 (v : PV) : Bool := shp 60 v
/-- it holds nothing that may be changed -/
def clean : Nat → PV → Bool
  | 0, _ => false
  | _ + 1, .non => true
  | _ + 1, .bl _ => true
  | _ + 1, .int _ => true
  | _ + 1, .str _ => true
  | n + 1, .tup xs => xs.all (clean n)
  | _, _ => false
/-- .. below d levels -/
def cleanB : Nat → PV → Bool
  | 0, v => clean 60 v
  | d + 1, .lst xs => xs.all (cleanB d)
  | d + 1, .dct _ _ vs => vs.all (cleanB d)
  | d + 1, .tup xs => xs.all (cleanB d)
  | _ + 1, v => clean 60 v
def isKey1 : PV → Bool
  | .int _ => true
  | .str _ => true
  | _ => false
def isKey : Bool → PV → Bool
  | true, .tup xs => xs.all isKey1
  | true, _ => false
  | false, v => isKey1 v
def lookP (k : PV) : List PV → List PV → Option PV
  | q :: qs, v :: vs => if eqP q k then some v else lookP k qs vs
  | _, _ => none
def putP (k v : PV) : List PV → List PV → List PV × List PV
  | q :: qs, u :: us => if eqP q k then (q :: qs, v :: us) else let r := putP k v qs us; (q :: r.1, u :: r.2)
  | _, _ => ([k], [v])
def dropP (k : PV) : List PV → List PV → List PV × List PV
  | q :: qs, u :: us => if eqP q k then (qs, us) else let r := dropP k qs us; (q :: r.1, u :: r.2)
  | qs, us => (qs, us)
def ixP (n : Nat) (i : Int) : Option Nat := if 0 ≤ i then (if i < n then some i.toNat else none) else if -(n : Int) ≤ i then some (i + n).toNat else none
def atP {α : Type} (xs : List α) (i : Int) : Option α := (ixP xs.length i).bind fun j => xs[j]?
def clampP (n : Nat) (i : Int) : Nat := min n (if i < 0 then (i + n).toNat else i.toNat)
def cutP {α : Type} (xs : List α) (lo hi : Option Int) : List α :=
  let a := match lo with | none => 0 | some i => clampP xs.length i
  let b := match hi with | none => xs.length | some i => clampP xs.length i
  (xs.drop a).take (b - a)
def itemP : PV → PV → Res PV
  | .tup xs, .int i => match atP xs i with | some v => .ok v | none => .stuck
  | .lst xs, .int i => match atP xs i with | some v => .ok v | none => .stuck
  | .str s, .int i => need (s.length ≤ 16777216) (match atP s.cps.toList i with | some c => .ok (.str ⟨#[c]⟩) | none => .stuck)
  | .dct t ks vs, k => need (isKey t k = true) (match lookP k ks vs with | some v => .ok v | none => .stuck)
  | _, _ => .stuck
def slcP (v : PV) (lo hi : Option Int) : Res PV := match v with
  | .tup xs => .ok (.tup (cutP xs lo hi))
  | .lst xs => .ok (.lst (cutP xs lo hi))
  | .str s => need (s.length ≤ 16777216) (.ok (.str ⟨(cutP s.cps.toList lo hi).toArray⟩))
  | _ => .stuck
def revP : PV → Res PV
  | .lst xs => .ok (.lst xs.reverse)
  | _ => .stuck
def mulOk (i j : Int) : Prop := (-(2 ^ 64) < i ∧ i < 2 ^ 64) ∨ (-(2 ^ 64) < j ∧ j < 2 ^ 64) ∨ i.natAbs.log2 + j.natAbs.log2 < 1000000
instance (i j : Int) : Decidable (mulOk i j) := by unfold mulOk; infer_instance
def divOk (j : Int) : Prop := 0 < j ∧ j.natAbs.log2 < 9000
instance (j : Int) : Decidable (divOk j) := by unfold divOk; infer_instance
def powOk (i j : Int) : Prop := 0 ≤ j ∧ j ≤ 1000000 ∧ i.natAbs < 2 ^ 64
instance (i j : Int) : Decidable (powOk i j) := by unfold powOk; infer_instance
def binP : Operator → PV → PV → Res PV
  | .Add, .int i, .int j => .ok (.int (i + j))
  | .Add, .str a, .str b => need (a.length + b.length ≤ 16777216) (.ok (.str (a ++ b)))
  | .Add, .tup a, .tup b => need (a.length + b.length ≤ 16777216) (.ok (.tup (a ++ b)))
  | .Add, .lst a, .lst b => need (a.length + b.length ≤ 16777216) (.ok (.lst (a ++ b)))
  | .Sub, .int i, .int j => .ok (.int (i - j))
  | .Mult, .int i, .int j => need (mulOk i j) (.ok (.int (i * j)))
  | .FloorDiv, .int i, .int j => need (divOk j) (.ok (.int (i / j)))
  | .Mod, .int i, .int j => need (0 < j) (.ok (.int (i % j)))
  | .Pow, .int i, .int j => need (powOk i j) (.ok (.int (i ^ j.toNat)))
  | .LShift, .int i, .int j => need (powOk i j) (.ok (.int (i * 2 ^ j.toNat)))
  | _, _, _ => .stuck
def cmpP : CmpOp → PV → PV → Res Bool
  | .Eq, a, b => need (shp0 a = true ∧ shp0 b = true) (.ok (eqP a b))
  | .NotEq, a, b => need (shp0 a = true ∧ shp0 b = true) (.ok (!eqP a b))
  | .Is, a, .non => .ok (match a with | .non => true | _ => false)
  | .IsNot, a, .non => .ok (match a with | .non => false | _ => true)
  | .Lt, .int i, .int j => .ok (decide (i < j))
  | .LtE, .int i, .int j => .ok (decide (i ≤ j))
  | .Gt, .int i, .int j => .ok (decide (j < i))
  | .GtE, .int i, .int j => .ok (decide (j ≤ i))
  | .In, k, .dct t ks vs => need (isKey t k = true) (.ok (lookP k ks vs).isSome)
  | .NotIn, k, .dct t ks vs => need (isKey t k = true) (.ok (!(lookP k ks vs).isSome))
  | .In, v, .tup xs => need (shp0 v = true ∧ xs.all shp0 = true) (.ok (xs.any (eqP · v)))
  | .In, v, .lst xs => need (shp0 v = true ∧ xs.all shp0 = true) (.ok (xs.any (eqP · v)))
  | .NotIn, v, .tup xs => need (shp0 v = true ∧ xs.all shp0 = true) (.ok (!xs.any (eqP · v)))
  | .NotIn, v, .lst xs => need (shp0 v = true ∧ xs.all shp0 = true) (.ok (!xs.any (eqP · v)))
  | .In, .str a, .str b => need (a.length = 1) (.ok (decide (a.cps.getD 0 0 ∈ b.cps.toList)))
  | .NotIn, .str a, .str b => need (a.length = 1) (.ok (!decide (a.cps.getD 0 0 ∈ b.cps.toList)))
  | _, _, _ => .stuck
/-! ### built-in functions -/
def rangeP (a b : Int) : List PV := (List.range (b - a).toNat).map fun i => .int (a + (i : Nat))
/-- how many turns range(a, b, c) has -/
def turnsP (a b c : Int) : Nat := if 0 < c then ((b - a + c - 1) / c).toNat else ((a - b - c - 1) / (-c)).toNat
def smallP (i : Int) : Prop := -(2 ^ 62) ≤ i ∧ i < 2 ^ 62
instance (i : Int) : Decidable (smallP i) := by unfold smallP; infer_instance
def enumP (xs : List PV) : List PV := (List.range xs.length).zipWith (fun i x => .tup [.int (i : Nat), x]) xs
def zipP (xs ys : List PV) : List PV := xs.zipWith (fun x y => .tup [x, y]) ys
def itemsP (ks vs : List PV) : List PV := ks.zipWith (fun x y => .tup [x, y]) vs
def intsOf : List PV → Option (List Int)
  | [] => some []
  | .int i :: r => (intsOf r).map (i :: ·)
  | _ :: _ => none
def boolsOf : List PV → Option (List Bool)
  | [] => some []
  | .bl i :: r => (boolsOf r).map (i :: ·)
  | _ :: _ => none
mutual
/-- a < b of numbers, texts, tuples of these -/
def ltP : PV → PV → Bool
  | .int a, .int b => decide (a < b)
  | .str a, .str b => decide (a.cps.toList < b.cps.toList)
  | .tup a, .tup b => ltPs a b
  | _, _ => false
def ltPs : List PV → List PV → Bool
  | [], [] => false
  | [], _ :: _ => true
  | _ :: _, [] => false
  | a :: as, b :: bs => if eqP a b then ltPs as bs else ltP a b
end
def insP (x : PV) : List PV → List PV
  | [] => [x]
  | y :: ys => if ltP y x then y :: insP x ys else x :: y :: ys
def sortP (xs : List PV) : List PV := xs.foldr insP []
/-- values of one shape, so that they may be sorted: numbers; texts; tuples of numbers and texts of one shape -/
inductive Kd where | i | s deriving DecidableEq
def kdOf : PV → Option Kd
  | .int _ => some .i
  | .str _ => some .s
  | _ => none
def kdsOf (xs : List PV) : Option (List Kd) := xs.mapM kdOf
def sortable (xs : List PV) : Bool := (intsOf xs).isSome
def maxI (a b : Int) : Int := if b > a then b else a
def minI (a b : Int) : Int := if b < a then b else a
def primP : Prim → List PV → Res PV
  | .len, [.tup xs] => .ok (.int xs.length)
  | .len, [.lst xs] => .ok (.int xs.length)
  | .len, [.str s] => need (s.length ≤ 16777216) (.ok (.int s.length))
  | .len, [.dct _ ks _] => .ok (.int ks.length)
  | .tuple, [.lst xs] => .ok (.tup xs)
  | .tuple, [.tup xs] => .ok (.tup xs)
  | .list, [.lst xs] => .ok (.lst xs)
  | .list, [.tup xs] => .ok (.lst xs)
  | .list, [.dct _ ks _] => .ok (.lst ks)
  | .sorted, [.lst xs] => need (sortable xs = true) (.ok (.lst (sortP xs)))
  | .sorted, [.dct false ks _] => need (sortable ks = true ∧ ks.length < 64) (.ok (.lst (sortP ks)))
  | .sum, [.lst xs] => match intsOf xs with | some ns => .ok (.int ns.sum) | none => .stuck
  | .all, [.lst xs] => match boolsOf xs with | some ns => .ok (.bl (ns.all id)) | none => .stuck
  | .any, [.lst xs] => match boolsOf xs with | some ns => .ok (.bl (ns.any id)) | none => .stuck
  | .max, [.int a, .int b] => .ok (.int (maxI a b))
  | .max, [.int a, .int b, .int c] => .ok (.int (maxI (maxI a b) c))
  | .max, [.lst xs] => match intsOf xs with | some (n :: ns) => .ok (.int (ns.foldl maxI n)) | _ => .stuck
  | .min, [.int a, .int b] => .ok (.int (minI a b))
  | .min, [.int a, .int b, .int c] => .ok (.int (minI (minI a b) c))
  | .min, [.lst xs] => match intsOf xs with | some (n :: ns) => .ok (.int (ns.foldl minI n)) | _ => .stuck
  | .abs, [.int a] => .ok (.int (if a < 0 then -a else a))
  | .int, [.int a] => .ok (.int a)
  | .int, [.bl a] => .ok (.int (if a then 1 else 0))
  | .str, [.int a] => need (a.natAbs.log2 < 1920) (.ok (.str (Str.ofString (toString a))))
  | _, _ => .stuck
/-- iterators -/
def iterP : Prim → List PV → Res (List PV)
  | .range, [.int b] => need (smallP b) ((.ok (rangeP 0 b)))
  | .range, [.int a, .int b] => need (smallP a ∧ smallP b) ((.ok (rangeP a b)))
  | .enumerate, [.lst xs] => (.ok (enumP xs))
  | .zip, [.tup xs, .tup ys] => (.ok (zipP xs ys))
  | .zip, [.lst xs, .lst ys] => (.ok (zipP xs ys))
  | .reversed, [.tup xs] => (.ok xs.reverse)
  | .reversed, [.lst xs] => (.ok xs.reverse)
  | _, _ => .stuck
def strsOf : List PV → Option (List Str)
  | [] => some []
  | .str i :: r => (strsOf r).map (i :: ·)
  | _ :: _ => none
def joinP (sep : Str) : List Str → Str
  | [] => ⟨#[]⟩
  | [x] => x
  | x :: rest => x ++ sep ++ joinP sep rest
def idxP (v : PV) : List PV → Option Nat
  | [] => none
  | x :: xs => if eqP x v then some 0 else (idxP v xs).map (· + 1)
def seqP : PV → Option (List PV)
  | .lst xs => some xs
  | .tup xs => some xs
  | _ => none
def isNon : PV → Bool
  | .non => true
  | _ => false
/-- d.get(k, x); None is no key of it -/
def getP (t : Bool) (ks vs : List PV) (k d : PV) : Res PV := if isNon k = true then need (t = false) (.ok d) else need (isKey t k = true) (.ok ((lookP k ks vs).getD d))
def methP : Meth → List PV → Res PV
  | .get, [.dct t ks vs, k] => getP t ks vs k .non
  | .get, [.dct t ks vs, k, d] => getP t ks vs k d
  | .items, [.dct _ ks vs] => .ok (.it (itemsP ks vs))
  | .keys, [.dct _ ks vs] => .ok (.it ks)
  | .values, [.dct _ ks vs] => .ok (.it vs)
  | .index, [.lst xs, v] => need (shp0 v = true ∧ xs.all shp0 = true) (match idxP v xs with | some i => .ok (.int (i : Nat)) | none => .stuck)
  | .count, [.lst xs, v] => need (shp0 v = true ∧ xs.all shp0 = true) (.ok (.int ((xs.filter (eqP · v)).length : Nat)))
  | .join, [.str s, v] => match (seqP v).bind strsOf with
    | some ss => need ((ss.map (·.length)).sum + ss.length * s.length ≤ 16777216) (.ok (.str (joinP s ss)))
    | none => .stuck
  | _, _ => .stuck
/-- what stands behind a change, and the call's value -/
def mutP : Mut → PV → List PV → Res (PV × PV)
  | .append, .lst xs, [v] => need (xs.length < 16777216) (.ok (.lst (xs ++ [v]), .non))
  | .extend, .lst xs, [.lst ys] => need (xs.length + ys.length ≤ 16777216) (.ok (.lst (xs ++ ys), .non))
  | .pop, .lst xs, [] => match xs.getLast? with | some v => .ok (.lst xs.dropLast, v) | none => .stuck
  | .pop, .lst xs, [.int i] => match ixP xs.length i with
    | some j => (match xs[j]? with | some v => need (smallP i) (.ok (.lst (xs.eraseIdx j), v)) | none => .stuck)
    | none => .stuck
  | .reverse, .lst xs, [] => .ok (.lst xs.reverse, .non)
  | .update, .dct t ks vs, [.dct t' ks' vs'] => need (t = t' ∧ ks.length + ks'.length ≤ 16777216) (.ok (let r := (ks'.zip vs').foldl (fun r p => putP p.1 p.2 r.1 r.2) (ks, vs); (.dct t r.1 r.2, .non)))
  | _, _, _ => .stuck
/-- c[i] = v -/
def setP : PV → PV → PV → Res PV
  | .lst xs, .int i, v => match ixP xs.length i with | some j => .ok (.lst (xs.set j v)) | none => .stuck
  | .dct t ks vs, k, v => need (isKey t k = true ∧ ks.length < 16777216) (.ok (.dct t (putP k v ks vs).1 (putP k v ks vs).2))
  | _, _, _ => .stuck
def delP : PV → PV → Res PV
  | .lst xs, .int i => match ixP xs.length i with | some j => .ok (.lst (xs.eraseIdx j)) | none => .stuck
  | .dct t ks vs, k => need (isKey t k = true ∧ (lookP k ks vs).isSome = true) (.ok (.dct t (dropP k ks vs).1 (dropP k ks vs).2))
  | _, _ => .stuck
/-- what stands at a path -/
def getPath : PV → List PV → Res PV
  | v, [] => .ok v
  | v, k :: ks => (itemP v k).bind fun u => getPath u ks
def putPath : PV → List PV → PV → Res PV
  | _, [], new => .ok new
  | v, k :: ks, new => (itemP v k).bind fun u => (putPath u ks new).bind fun u' => setP v k u'
def isCnt : PV → Bool
  | .lst _ => true
  | .dct _ _ _ => true
  | _ => false
def isLst : PV → Bool
  | .lst _ => true
  | _ => false
def isTy : PV → Ty → Bool
  | .int _, .int => true
  | .bl _, .int => true
  | .bl _, .bool => true
  | .str _, .str => true
  | .tup _, .tuple => true
  | .lst _, .list => true
  | .dct _ _ _, .dict => true
  | _, _ => false
/-! ### the interpreter -/
/-- a call: the value, what its changed arguments are behind it -/
abbrev Calls := Nat → List PV → Res (PV × Option PV)
def readPath (env : Env) (x : Nat) (ks : List PV) : Res PV := (getV env x).bind fun v => getPath v ks
def writePath (env : Env) (x : Nat) (ks : List PV) (new : PV) : Res Env := (getV env x).bind fun v => (putPath v ks new).bind fun v' => .ok (setV env x (some v'))
/-- a target's store -/
def storeT : Tg → PV → Env → Res Env
  | .nm i, v, env => .ok (setV env i (some v))
  | .tp ts, v, env => match v with
    | .tup xs => storeTs ts xs env
    | .lst xs => storeTs ts xs env
    | _ => .stuck
where storeTs : List Tg → List PV → Env → Res Env
  | [], [], env => .ok env
  | t :: ts, x :: xs, env => (storeT t x env).bind fun env => storeTs ts xs env
  | _, _, _ => .stuck
/-- the arguments by parameters -/
def argsBy (n : Nat) (ix : List Nat) (vs : List PV) (dfl : List (Option PV)) : Option (List PV) :=
  (List.range n).mapM fun j => match (ix.zip vs).lookup j with | some v => some v | none => (dfl[j]?).join
structure Sig where
  np : Nat
  dfl : List (Option PV) := []
structure Ctx where
  sig : Nat → Option Sig
  run : Calls
def Kc.v : Kc → PV
  | .i n => .int n
  | .s x => .str (Str.ofString x)
def Pr.ks (p : Pr) : List PV := p.k0.map Kc.v
def writeBack : Option Pr → Option PV → Env → Res Env
  | none, _, env => .ok env
  | some p, some v, env => writePath env p.x p.ks v
  | some _, none, _ => .stuck
/-- is the name read behind the others? -/
def E.late : E → Bool
  | .var _ => true
  | _ => false
def wipeV : List Nat → Env → Env
  | [], env => env
  | i :: is, env => wipeV is (setV env i none)
/-- the turns of a comprehension, its own names wiped at each -/
def compLoop (body : Env → List PV → Res (List PV × Env)) (t : Tg) (ws : List Nat) : List PV → Env → List PV → Res (List PV × Env)
  | [], env, acc => .ok (acc, env)
  | x :: xs, env, acc => (storeT t x (wipeV ws env)).bind fun env => (body env acc).bind fun r => compLoop body t ws xs r.2 r.1
mutual
def Tg.slots : Tg → List Nat
  | .nm i => [i]
  | .tp ts => Tg.slotsL ts
def Tg.slotsL : List Tg → List Nat
  | [] => []
  | t :: ts => t.slots ++ Tg.slotsL ts
end
/-- the slots of a comprehension's own names as they were ahead of it -/
def restore (old : Env) : List Nat → Env → Env
  | [], env => env
  | i :: is, env => restore old is (setV env i (old[i]?).join)
/-- an exception does not leave a comprehension here -/
def noExc {α : Type} : Res α → Res α
  | .ok a => .ok a
  | _ => .stuck
/-- a method's receiver, looked at ahead -/
def Meth.ty : Meth → String
  | .get => "dict" | .items => "dict" | .keys => "dict" | .values => "dict" | .index => "list" | .count => "list" | _ => "str"
def recvOk (m : Meth) : PV → Bool
  | .dct _ _ _ => m.ty == "dict"
  | .lst _ => m.ty == "list"
  | .str _ => m.ty == "str"
  | _ => false
/-- neither list, nor tuple, nor dict -/
def scaP : PV → Bool
  | .non => true
  | .bl _ => true
  | .int _ => true
  | .str _ => true
  | _ => false
/-- a display of a dict: key, value, key, value, .. -/
def dictP (t : Bool) : List PV → List PV → List PV → Res (List PV × List PV)
  | [], ks, us => .ok (ks, us)
  | k :: v :: r, ks, us => need (isKey t k = true ∧ lookP k ks us = none) (dictP t r (ks ++ [k]) (us ++ [v]))
  | _, _, _ => .stuck
def methPre (m : Meth) : List E → Env → Res Unit
  | .var i :: _, env => (getV env i).bind fun v => need (recvOk m v = true) (.ok ())
  | _, _ => .ok ()
/-- of a receiver that is no name: its arguments raise nothing -/
def methA {α : Type} : List E → Res α → Res α
  | .var _ :: _, r => r
  | _, r => noExc r
def litP (s : String) : PV := .str (Str.ofString s)
mutual
def evalE (G : Ctx) : E → Env → Res (PV × Env)
  | .int n, env => .ok (.int n, env)
  | .str s, env => .ok (litP s, env)
  | .bl b, env => .ok (.bl b, env)
  | .non, env => .ok (.non, env)
  | .var i, env => (getV env i).bind fun v => .ok (v, env)
  | .mv i, env => (getV env i).bind fun v => .ok (v, env)
  | .fz _ e, env => evalE G e env
  | .cln e, env => (evalE G e env).bind fun r => need (clean 60 r.1 = true) (.ok r)
  | .gl _ v, env => .ok (v, env)
  | .pth p, env => (readPath env p.x p.ks).bind fun v => .ok (v, env)
  | .tup _ es, env => (evalEs G es env).bind fun r => need (r.1.length ≤ 16777216) (.ok (.tup r.1, r.2))
  | .lst _ es, env => (evalEs G es env).bind fun r => need (r.1.length ≤ 16777216) (.ok (.lst r.1, r.2))
  | .dct t _ es, env => (evalEs G es env).bind fun r => need (r.1.length ≤ 30) ((dictP t r.1 [] []).bind fun q => .ok (.dct t q.1 q.2, r.2))
  | .bin _ op es, env => (evalEs G es env).bind fun r => match r.1 with
      | [a, b] => (binP op a b).bind fun v => .ok (v, r.2)
      | _ => .stuck
  | .neg a, env => (evalE G a env).bind fun r => match r.1 with
      | .int i => .ok (.int (-i), r.2)
      | _ => .stuck
  | .not a, env => (evalE G a env).bind fun r => (truth r.1).bind fun b => .ok (.bl (!b), r.2)
  | .and a b, env => (evalE G a env).bind fun r => (truth r.1).bind fun t => if t = true then evalE G b r.2 else .ok r
  | .or a b, env => (evalE G a env).bind fun r => (truth r.1).bind fun t => if t = true then .ok r else evalE G b r.2
  | .ite c a b, env => (evalE G c env).bind fun r => (truth r.1).bind fun t => if t = true then evalE G a r.2 else evalE G b r.2
  | .inK b e _ vs, env => (evalE G e env).bind fun r => need (shp0 r.1 = true ∧ vs.all shp0 = true) (.ok (.bl (vs.any (eqP · r.1) != b), r.2))
  | .cmp op es, env => (evalEs G es env).bind fun r => match r.1 with
      | [a, b] => (cmpP op a b).bind fun v => .ok (.bl v, r.2)
      | _ => .stuck
  | .chn o1 o2 a b c, env => (evalE G a env).bind fun r => (evalE G b r.2).bind fun q => (cmpP o1 r.1 q.1).bind fun t => if t = true then (evalE G c q.2).bind fun p => (cmpP o2 q.1 p.1).bind fun u => .ok (.bl u, p.2) else .ok (.bl false, q.2)
  | .item es, env => (evalEs G es env).bind fun r => match r.1 with
      | [a, b] => (itemP a b).bind fun v => .ok (v, r.2)
      | _ => .stuck
  | .slc _ a lo hi, env => (evalE G a env).bind fun r => (evalO G lo r.2).bind fun l => (evalO G hi l.2).bind fun h => (slcP r.1 l.1 h.1).bind fun v => .ok (v, h.2)
  | .rev _ a, env => (evalE G a env).bind fun r => (revP r.1).bind fun v => .ok (v, r.2)
  | .call f args ix back, env => (evalEs G args env).bind fun r => match G.sig f with
      | none => .stuck
      | some s => match argsBy s.np ix r.1 s.dfl with
        | none => .stuck
        | some ps => (G.run f ps).bind fun o => (writeBack back o.2 r.2).bind fun env => .ok (o.1, env)
  | .prim p _ args, env => (evalEs G args env).bind fun r => (primP p r.1).bind fun v => .ok (v, r.2)
  | .itr p args, env => (evalEs G args env).bind fun r => (iterP p r.1).bind fun v => .ok (.it v, r.2)
  | .lrg t args, env => (evalEs G args env).bind fun r => (iterP .range r.1).bind fun v => need (v.length ≤ 16777216) (.ok (if t = true then .tup v else .lst v, r.2))
  | .meth m args, env => (methPre m args env).bind fun _ => (methA args (evalEs G args env)).bind fun r => (methP m r.1).bind fun v => .ok (v, r.2)
  | .mut m p ks args, env => (evalKs G ks env).bind fun k => (readPath env p.x (p.ks ++ k)).bind fun c0 => need (isLst c0 = true) ((evalEs G args env).bind fun r => (readPath r.2 p.x (p.ks ++ k)).bind fun c => (mutP m c r.1).bind fun q =>
      (writePath r.2 p.x (p.ks ++ k) q.1).bind fun env => .ok (q.2, env))
  | .lc _ elt t it cs, env => (evalE G it env).bind fun r => (itemsOf r.1).bind fun xs =>
      (noExc (compLoop (fun env acc => (evalAll G cs env).bind fun c => if c.1 = true then (evalE G elt c.2).bind fun v => need (acc.length < 16777216) (.ok (acc ++ [v.1], v.2)) else .ok (acc, c.2)) t t.slots xs r.2 [])).bind fun q =>
        .ok (.lst q.1, restore r.2 t.slots q.2)
  | .lc2 _ elt t it t2 it2 cs, env => (evalE G it env).bind fun r => (itemsOf r.1).bind fun xs =>
      (noExc (compLoop (fun env acc => (evalE G it2 env).bind fun r2 => (itemsOf r2.1).bind fun ys =>
        compLoop (fun env acc => (evalAll G cs env).bind fun c => if c.1 = true then (evalE G elt c.2).bind fun v => need (acc.length < 16777216) (.ok (acc ++ [v.1], v.2)) else .ok (acc, c.2)) t2 t2.slots ys r2.2 acc) t (t.slots ++ t2.slots) xs r.2 [])).bind fun q =>
        .ok (.lst q.1, restore r.2 (t.slots ++ t2.slots) q.2)
  | .dc _ k v t it cs, env => (evalE G it env).bind fun r => (itemsOf r.1).bind fun xs =>
      (noExc (compLoop (fun env acc => (evalAll G cs env).bind fun c => if c.1 = true then (evalE G k c.2).bind fun kv => (evalE G v kv.2).bind fun vv => need (isKey false kv.1 = true) (.ok (acc ++ [.tup [kv.1, vv.1]], vv.2)) else .ok (acc, c.2)) t t.slots xs r.2 [])).bind fun q =>
        .ok (let d := q.1.foldl (fun d p => match p with | .tup [a, b] => putP a b d.1 d.2 | _ => d) ([], []); (.dct false d.1 d.2, restore r.2 t.slots q.2))
  | .isi e ts, env => (evalE G e env).bind fun r => match r.1 with
      | .exc _ _ => .stuck
      | .it _ => .stuck
      | v => .ok (.bl (ts.any (isTy v)), r.2)
  | .fld e c f, env => (evalE G e env).bind fun r => match r.1 with
      | .exc d fs => if d = c then (match fs[f]? with | some v => .ok (v, r.2) | none => .stuck) else .stuck
      | _ => .stuck
def evalEs (G : Ctx) : List E → Env → Res (List PV × Env)
  | [], env => .ok ([], env)
  | e :: es, env => match e.late with
    | true => (evalE G e env).bind fun _ => (evalEs G es env).bind fun r => (evalE G e r.2).bind fun v => .ok (v.1 :: r.1, r.2)
    | false => (evalE G e env).bind fun v => (evalEs G es v.2).bind fun r => .ok (v.1 :: r.1, r.2)
/-- keys: they change nothing, no exception leaves them -/
def evalKs (G : Ctx) : List E → Env → Res (List PV)
  | [], _ => .ok []
  | e :: es, env => (noExc (evalE G e env)).bind fun v => (evalKs G es env).bind fun r => .ok (v.1 :: r)
def evalO (G : Ctx) : Option E → Env → Res (Option Int × Env)
  | none, env => .ok (none, env)
  | some e, env => (evalE G e env).bind fun r => match r.1 with
      | .int i => .ok (some i, r.2)
      | _ => .stuck
def evalAll (G : Ctx) : List E → Env → Res (Bool × Env)
  | [], env => .ok (true, env)
  | c :: cs, env => (evalE G c env).bind fun r => (truth r.1).bind fun t => if t = true then evalAll G cs r.2 else .ok (false, r.2)
end
/-! ### statements -/
def hndV : Option Nat → PV → Env → Env
  | some i, x, env => setV env i (some x)
  | none, _, env => env
def setVs : Env → List Nat → List PV → Env
  | env, i :: is, v :: vs => setVs (setV env i (some v)) is vs
  | env, _, _ => env
/-- a op= b of numbers and texts -/
def augP : Operator → PV → PV → Res PV
  | .Add, .int i, .int j => .ok (.int (i + j))
  | .Sub, .int i, .int j => .ok (.int (i - j))
  | .Mult, .int i, .int j => need ((-(2 ^ 64) < i ∧ i < 2 ^ 64) ∨ (-(2 ^ 64) < j ∧ j < 2 ^ 64)) (.ok (.int (i * j)))
  | .Add, .str a, .str b => need (a.length + b.length ≤ 16777216) (.ok (.str (a ++ b)))
  | _, _, _ => .stuck
/-- a def: its text's names (parameters first), how many parameters, which of them it changes (so deep), how deep its answer is its own, its body -/
structure FnA where
  name : String
  ns : List String
  np : Nat
  io : Option Nat := none
  dio : Nat := 0
  dr : Nat := 0
  dfl : List (Option PV) := []
  /-- constants of the module -/
  gl : List (String × PV) := []
  body : List S
inductive Flow where
  | next (env : Env) | brk (env : Env) | cnt (env : Env) | ret (v : PV) (env : Env)
def loopN (c : Env → Res (Bool × Env)) (b : Env → Res Flow) : Nat → Env → Option (Res Flow)
  | 0, _ => none
  | n + 1, env => match c env with
    | .ok (true, env1) => (match b env1 with
      | .ok (.next e) => loopN c b n e
      | .ok (.cnt e) => loopN c b n e
      | .ok (.brk e) => some (.ok (.next e))
      | .ok (.ret v e) => some (.ok (.ret v e))
      | .exc x => some (.exc x)
      | .stuck => some .stuck)
    | .ok (false, env1) => some (.ok (.next env1))
    | .exc x => some (.exc x)
    | .stuck => some .stuck
open Classical in
noncomputable def whileR (c : Env → Res (Bool × Env)) (b : Env → Res Flow) (env : Env) : Res Flow :=
  if h : ∃ r, ∃ n, loopN c b n env = some r then h.choose else .stuck
def forR (t : Tg) (b : Env → Res Flow) : List PV → Env → Res Flow
  | [], env => .ok (.next env)
  | x :: xs, env => (storeT t x env).bind fun env => (b env).bind fun
    | .next e => forR t b xs e
    | .cnt e => forR t b xs e
    | .brk e => .ok (.next e)
    | .ret v e => .ok (.ret v e)
mutual
noncomputable def evalS (G : Ctx) : S → Env → Res Flow
  | .expr e, env => (evalE G e env).bind fun r => .ok (.next r.2)
  | .asg t e, env => (evalE G e env).bind fun r => (storeT t r.1 r.2).bind fun env => .ok (.next env)
  | .pass, env => .ok (.next env)
  | .brk, env => .ok (.brk env)
  | .cnt, env => .ok (.cnt env)
  | .ret e, env => (evalE G e env).bind fun r => .ok (.ret r.1 r.2)
  | .retN, env => .ok (.ret .non env)
  | .als y x ks, env => (getV env x).bind fun v => (getPath v (ks.map Kc.v)).bind fun u => (putPath v (ks.map Kc.v) u).bind fun _ => need (isCnt u = true ∧ y < env.length) (.ok (.next env))
  | .set p ks e, env => (evalE G e env).bind fun r => (evalKs G ks r.2).bind fun k => match k.getLast? with
      | none => .stuck
      | some q => (readPath r.2 p.x (p.ks ++ k.dropLast)).bind fun c => (setP c q r.1).bind fun c' => (writePath r.2 p.x (p.ks ++ k.dropLast) c').bind fun env => .ok (.next env)
  | .par is es, env => (evalEs G es env).bind fun r => .ok (.next (setVs r.2 is r.1))
  | .aug i op e, env => (getV env i).bind fun a => (evalE G e env).bind fun r => (augP op a r.1).bind fun v => .ok (.next (setV r.2 i (some v)))
  | .augI p ks op e, env => (evalKs G ks env).bind fun k => match k.getLast? with
      | none => .stuck
      | some q => (readPath env p.x (p.ks ++ k.dropLast)).bind fun c => (itemP c q).bind fun a => (evalE G e env).bind fun r => (augP op a r.1).bind fun v => (setP c q v).bind fun c' =>
        (writePath r.2 p.x (p.ks ++ k.dropLast) c').bind fun env => .ok (.next env)
  | .del p ks, env => (evalKs G ks env).bind fun k => match k.getLast? with
      | none => .stuck
      | some q => (readPath env p.x (p.ks ++ k.dropLast)).bind fun c => (delP c q).bind fun c' => (writePath env p.x (p.ks ++ k.dropLast) c').bind fun env => .ok (.next env)
  | .ite _ c a b, env => (evalE G c env).bind fun r => (truth r.1).bind fun t => if t = true then evalSs G a r.2 else evalSs G b r.2
  | .whl _ c b, env => whileR (fun env => (evalE G c env).bind fun r => (truth r.1).bind fun t => .ok (t, r.2)) (fun env => evalSs G b env) env
  | .for_ _ t it b, env => (evalE G it env).bind fun r => (itemsOf r.1).bind fun xs => forR t (fun env => evalSs G b env) xs r.2
  | .raise c args, env => (evalEs G args env).bind fun r => need (r.1.all (clean 60) = true) (.exc (.exc c r.1))
  | .try_ _ b hs, env => match evalSs G b env with
      | .ok f => .ok f
      | .stuck => .stuck
      | .exc x => evalH G x hs env
  | .hnd _ _ _, _ => .stuck
noncomputable def evalSs (G : Ctx) : List S → Env → Res Flow
  | [], env => .ok (.next env)
  | s :: ss, env => (evalS G s env).bind fun
    | .next e => evalSs G ss e
    | f => .ok f
noncomputable def evalH (G : Ctx) (x : PV) : List S → Env → Res Flow
  | [], _ => .exc x
  | .hnd cls nm h :: hs, env => match x with
    | .exc c _ => if cls.contains c = true then evalSs G h (hndV nm x env) else evalH G x hs env
    | _ => .stuck
  | _ :: _, _ => .stuck
end
def FnA.start (d : FnA) (vs : List PV) : Env := vs.map some ++ List.replicate (d.ns.length - vs.length) none
def outOf (d : FnA) (env : Env) : Res (Option PV) := match d.io with
  | none => .ok none
  | some j => (getV env j).bind fun v => need (cleanB d.dio v = true) (.ok (some v))
noncomputable def runFn (G : Ctx) (d : FnA) (vs : List PV) : Res (PV × Option PV) := need (vs.length = d.np) ((evalSs G d.body (d.start vs)).bind fun
  | .next env => (outOf d env).bind fun o => .ok (.non, o)
  | .ret v env => (outOf d env).bind fun o => need (cleanB d.dr v = true) (.ok (v, o))
  | _ => .stuck)
def FnA.sig (d : FnA) : Sig := ⟨d.np, d.dfl⟩
noncomputable def callN (P : List FnA) : Nat → Calls
  | 0 => fun _ _ => .stuck
  | n + 1 => fun f vs => match P[f]? with
    | some d => runFn ⟨fun g => (P[g]?).map FnA.sig, callN P n⟩ d vs
    | none => .stuck
/-! ### what is looked at ahead: types -/
def gat (Γ : List Gt) (i : Nat) : Gt := (Γ[i]?).getD .dead
def killA (x : Nat) (Γ : List Gt) : List Gt := Γ.map fun g => match g with
  | .al y ks => if y = x then .dead else .al y ks
  | g => g
def setT (i : Nat) (g : Gt) (Γ : List Gt) : List Gt := (killA i Γ).set i g
def backX : Option Pr → List Nat
  | none => []
  | some p => [p.x]
mutual
/-- the slots that are touched -/
def tchE : E → List Nat
  | .mv i => [i]
  | .fz i e => i :: tchE e
  | .cln e => tchE e
  | .tup _ es => tchEs es
  | .lst _ es => tchEs es
  | .dct _ _ es => tchEs es
  | .bin _ _ es => tchEs es
  | .neg a => tchE a
  | .not a => tchE a
  | .and a b => tchE a ++ tchE b
  | .or a b => tchE a ++ tchE b
  | .ite c a b => tchE c ++ (tchE a ++ tchE b)
  | .inK _ e _ _ => tchE e
  | .cmp _ es => tchEs es
  | .chn _ _ a b c => tchE a ++ (tchE b ++ tchE c)
  | .item es => tchEs es
  | .slc _ a lo hi => tchE a ++ (tchO lo ++ tchO hi)
  | .rev _ a => tchE a
  | .call _ args _ back => tchEs args ++ backX back
  | .prim _ _ args => tchEs args
  | .itr _ args => tchEs args
  | .lrg _ args => tchEs args
  | .meth _ args => tchEs args
  | .mut _ p ks args => p.x :: (tchEs ks ++ tchEs args)
  | .lc _ elt _ it cs => tchE it ++ (tchE elt ++ tchEs cs)
  | .lc2 _ elt _ it _ it2 cs => tchE it ++ (tchE it2 ++ (tchE elt ++ tchEs cs))
  | .dc _ k v _ it cs => tchE it ++ (tchE k ++ (tchE v ++ tchEs cs))
  | .isi e _ => tchE e
  | .fld e _ _ => tchE e
  | _ => []
def tchEs : List E → List Nat
  | [] => []
  | e :: es => tchE e ++ tchEs es
def tchO : Option E → List Nat
  | none => []
  | some e => tchE e
end
abbrev TR := Tp × Option Nat
/-- what is borrowed stands, where M is touched -/
def srcFree (M : List Nat) : Option Nat → Bool
  | some x => !M.contains x
  | none => true
/-- it may be kept m levels deep -/
def useAt (m : Nat) (r : TR) : Bool := match r.1 with
  | .cl => true
  | .d n => r.2.isNone && (n == m || m == 0)
/-- what lies in it is frozen -/
def shal (r : TR) : Bool := match r.1 with
  | .cl => true
  | .d n => n ≤ 1
def isCl (r : TR) : Bool := r.1 == .cl
/-- a type one level within -/
def Tp.sub : Tp → Tp
  | .cl => .cl
  | .d n => .d (n - 1)
mutual
def typT : Tg → Tp → List Gt → List Gt
  | .nm i, τ, Γ => setT i (.t τ) Γ
  | .tp ts, τ, Γ => typTs ts τ.sub Γ
def typTs : List Tg → Tp → List Gt → List Gt
  | [], _, Γ => Γ
  | t :: ts, τ, Γ => typTs ts τ (typT t τ Γ)
end
/-- what a walk over it yields -/
def itT (r : TR) : Option Tp := match r.1 with
  | .cl => some .cl
  | .d n => if n ≤ 1 then some (.d 0) else if r.2.isNone then some (.d 0) else none
/-- where the place stands, how deep the value there is one's own -/
def prOk (Γ : List Gt) (p : Pr) : Bool := match p.y with
  | none => p.k0.isEmpty
  | some y => decide (gat Γ y = .al p.x p.k0)
def depthAt (Γ : List Gt) (p : Pr) : Option Nat := match prOk Γ p, gat Γ p.x with
  | true, .t (.d n) => if p.k0.length ≤ n then some (n - p.k0.length) else none
  | _, _ => none
/-- the other names that stand behind a change at p[k1]..[kn] -/
def aliveA (p : Pr) (n : Nat) (Γ : List Gt) : List Gt := Γ.map fun g => match g with
  | .al y ks => if y = p.x ∧ ¬ (n = 0 ∧ ks = p.k0) then .dead else .al y ks
  | g => g
def Mut.gives (m : Mut) (e : Nat) : Tp := match m with
  | .pop => .d e
  | _ => .cl
def Mut.takes (m : Mut) (e : Nat) (rs : List TR) : Bool := match m, rs with
  | .append, [r] => useAt e r
  | .extend, [r] => e == 0 && r.1 == .d 1
  | .pop, [] => true
  | .pop, [_] => true
  | .reverse, [] => true
  | _, _ => false
def Prim.gives (p : Prim) (d : Nat) (rs : List TR) : Option Tp := match p with
  | .len => some .cl
  | .list => if rs.all shal && decide (d ≤ 1) then some (.d d) else none
  | .sorted => if rs.all shal && decide (d ≤ 1) then some (.d d) else none
  | .tuple => if rs.all isCl then some .cl else if rs.all shal then some (.d 0) else none
  | .range => none
  | .enumerate => none
  | .zip => none
  | .reversed => none
  | .set => none
  | .dict => none
  | _ => if rs.all shal then some .cl else none
def Meth.gives : Meth → List TR → Option Tp
  | .get, [r, _] => if shal r then some (.d 0) else none
  | .get, [r, _, q] => if shal r && (q.1 == .cl || q.1 == .d 0) then some (.d 0) else none
  | .join, _ => some .cl
  | _, _ => none
/-- the argument is what stands at the place -/
def E.isPr (p : Pr) : E → Bool
  | .var i => p.y.isNone && p.k0.isEmpty && i == p.x
  | _ => false
/-- the arguments of a call against its def: which is changed -/
def argOk (g : FnA) (back : Option Pr) : List Nat → List E → List TR → Bool
  | [], [], [] => true
  | j :: ix, e :: es, r :: rs => (if g.io = some j then r.1 == .d g.dio && (match back with
      | none => r.2.isNone
      | some p => e.isPr p && r.2 == some p.x) else (match back with
      | none => true
      | some p => srcFree [p.x] r.2)) && argOk g back ix es rs
  | _, _, _ => false
def distinct : List Nat → Bool
  | [] => true
  | x :: xs => !xs.contains x && distinct xs
/-- two types of one value -/
def joinT (a b : TR) : Option Tp :=
  if a.1 == .cl && b.1 == .cl then some .cl
  else if useAt 0 a && useAt 0 b then (match a.1, b.1 with
    | .cl, .d n => some (.d n)
    | .d n, .cl => some (.d n)
    | .d n, .d m => some (.d (if n == m then n else 0))
    | .cl, .cl => some .cl)
  else none
def retT (n : Nat) : Tp := if n = 0 then .cl else .d n
def callOk (g : FnA) (back : Option Pr) (ix : List Nat) (args : List E) (rs : List TR) (Γ' : List Gt) : Bool :=
  argOk g back ix args rs && (distinct ix && decide (ix.length = g.np) && (ix.all fun j => decide (j < g.np)) && ((List.range g.np).all fun j => ix.contains j)) && (match back with
    | none => true
    | some p => g.io.isSome && decide (depthAt Γ' p = some g.dio)) && (match g.io with
    | none => true
    | some j => decide (j < g.np))
def afterCall (back : Option Pr) (Γ' : List Gt) : List Gt := match back with
  | none => Γ'
  | some p => aliveA p 1 Γ'
def deadT (n : List Nat) (Γ : List Gt) : List Gt := n.foldl (fun Γ i => setT i (.t .cl) Γ) Γ
/-- a comprehension's own names: apart from what it touches -/
def ownOk (is M : List Nat) (Γ : List Gt) : Bool := distinct is && is.all fun i => !M.contains i && decide (i < Γ.length) && (match gat Γ i with | .al _ _ => false | _ => true)
def plnI : Option (TR × List Gt) → Option (Tp × List Nat × List Gt)
  | some (r, Γ') => (itT r).map fun τ => (τ, r.2.toList, Γ')
  | none => none
def itrI : Option (List TR × List Gt) → Option (Tp × List Nat × List Gt)
  | some (rs, Γ') => if rs.all (fun r => (itT r).isSome) then some (if rs.all isCl then .cl else .d 0, rs.filterMap (·.2), Γ') else none
  | none => none
/-- a comprehension by what it walks, its tests, its item -/
def lcT (d : Nat) (t : Tg) (M : List Nat) (r : Option (Tp × List Nat × List Gt)) (fc : List Gt → Bool) (fe : List Gt → Option (TR × List Gt)) : Option (TR × List Gt) := match r with
  | some (τ, ss, Γ') => (match fc (typT t τ (deadT t.slots Γ')), fe (typT t τ (deadT t.slots Γ')) with
    | true, some (q, Γ2) => if decide (0 < d) && decide (Γ2 = typT t τ (deadT t.slots Γ')) && useAt (d - 1) q && (ss.all fun x => !(t.slots ++ M).contains x) && ownOk t.slots M Γ' && decide (deadT t.slots (typT t τ (deadT t.slots Γ')) = deadT t.slots Γ') then some ((.d d, none), Γ') else none
    | _, _ => none)
  | none => none
mutual
def typE (T : List FnA) : E → List Gt → Option (TR × List Gt)
  | .int _, Γ => some ((.cl, none), Γ)
  | .str _, Γ => some ((.cl, none), Γ)
  | .bl _, Γ => some ((.cl, none), Γ)
  | .non, Γ => some ((.cl, none), Γ)
  | .var i, Γ => match gat Γ i with
    | .t .cl => some ((.cl, none), Γ)
    | .t (.d n) => some ((.d n, if n = 0 then none else some i), Γ)
    | _ => none
  | .mv i, Γ => match gat Γ i with
    | .t τ => some ((τ, none), setT i .dead Γ)
    | _ => none
  | .fz i e, Γ => match typE T e Γ with
    | some ((.d _, some x), Γ') => (match gat Γ' i with
      | .t _ => if x = i then some ((.d 0, none), setT i (.t (.d 0)) Γ') else none
      | _ => none)
    | _ => none
  | .cln e, Γ => match typE T e Γ with
    | some (_, Γ') => some ((.cl, none), Γ')
    | _ => none
  | .gl _ v, Γ => if scaP v then some ((.cl, none), Γ) else none
  | .pth _, _ => none
  | .tup d es, Γ => match typEs T es Γ with
    | some (rs, Γ') => if rs.all isCl then some ((.cl, none), Γ') else if rs.all (useAt (d - 1)) then some ((.d d, none), Γ') else none
    | none => none
  | .lst d es, Γ => match typEs T es Γ with
    | some (rs, Γ') => if rs.all (useAt (d - 1)) then some ((.d d, none), Γ') else none
    | none => none
  | .dct t d es, Γ => match typEs T es Γ with
    | some (rs, Γ') => if decide (0 < d) && (!t || es.isEmpty) && rs.all (useAt (d - 1)) then some ((.d d, none), Γ') else none
    | none => none
  | .bin d _ es, Γ => match typEs T es Γ with
    | some (rs, Γ') => if rs.all isCl then some ((.cl, none), Γ') else if rs.all shal && decide (d ≤ 1) then some ((.d d, none), Γ') else none
    | none => none
  | .neg a, Γ => match typE T a Γ with
    | some (_, Γ') => some ((.cl, none), Γ')
    | none => none
  | .not a, Γ => match typE T a Γ with
    | some (_, Γ') => some ((.cl, none), Γ')
    | none => none
  | .and a b, Γ => match typE T a Γ with
    | some (r, Γ') => (match typE T b Γ' with
      | some (q, Γ'') => if Γ'' = Γ' then (joinT r q).map fun τ => ((τ, none), Γ') else none
      | none => none)
    | none => none
  | .or a b, Γ => match typE T a Γ with
    | some (r, Γ') => (match typE T b Γ' with
      | some (q, Γ'') => if Γ'' = Γ' then (joinT r q).map fun τ => ((τ, none), Γ') else none
      | none => none)
    | none => none
  | .ite c a b, Γ => match typE T c Γ with
    | some (_, Γ0) => (match typE T a Γ0, typE T b Γ0 with
      | some (r, Γ'), some (q, Γ'') => if Γ'' = Γ' then (joinT r q).map fun τ => ((τ, none), Γ') else none
      | _, _ => none)
    | none => none
  | .inK _ e _ _, Γ => match typE T e Γ with
    | some (_, Γ') => some ((.cl, none), Γ')
    | none => none
  | .cmp _ es, Γ => match typEs T es Γ with
    | some (_, Γ') => some ((.cl, none), Γ')
    | none => none
  | .chn _ _ a b c, Γ => match typE T a Γ with
    | some (_, Γ0) => (match typE T b Γ0, typE T c Γ0 with
      | some (_, Γ1), some (_, Γ2) => if (tchE b).isEmpty && (tchE c).isEmpty && decide (Γ1 = Γ0) && decide (Γ2 = Γ0) then some ((.cl, none), Γ0) else none
      | _, _ => none)
    | none => none
  | .item es, Γ => match typEs T es Γ with
    | some ([r, _], Γ') => (match r.1 with
      | .cl => some ((.cl, none), Γ')
      | .d n => some ((.d (n - 1), if n ≤ 1 then none else r.2), Γ'))
    | _ => none
  | .slc d a lo hi, Γ => match typE T a Γ with
    | some (r, Γ0) => if (tchO lo).isEmpty && (tchO hi).isEmpty && typO T lo Γ0 && typO T hi Γ0 then
        (if isCl r then some ((.cl, none), Γ0) else if shal r && decide (d ≤ 1) then some ((.d d, none), Γ0) else none) else none
    | none => none
  | .rev d a, Γ => match typE T a Γ with
    | some (r, Γ0) => if isCl r then some ((.cl, none), Γ0) else if shal r && decide (d ≤ 1) then some ((.d d, none), Γ0) else none
    | none => none
  | .call f args ix back, Γ => match T[f]? with
    | some g => (match typEs T args Γ with
      | some (rs, Γ') => if callOk g back ix args rs Γ' = true then some ((retT g.dr, none), afterCall back Γ') else none
      | none => none)
    | none => none
  | .prim p d args, Γ => match typEs T args Γ with
    | some (rs, Γ') => (p.gives d rs).map fun τ => ((τ, none), Γ')
    | none => none
  | .itr _ _, _ => none
  | .lrg _ _, _ => none
  | .meth m args, Γ => match typEs T args Γ with
    | some (rs, Γ') => (m.gives rs).map fun τ => ((τ, none), Γ')
    | none => none
  | .mut m p ks args, Γ => match typAll T ks Γ with
    | true => (match typEs T args Γ with
      | some (rs, Γ') => (match depthAt Γ' p with
        | some n => if decide (depthAt Γ p = some n) && (tchEs ks).isEmpty && decide (ks.length < n) && (!(tchEs args).contains p.x || (ks.isEmpty && p.k0.isEmpty)) && m.takes (n - ks.length - 1) rs then
            some ((m.gives (n - ks.length - 1), none), aliveA p ks.length Γ') else none
        | none => none)
      | none => none)
    | false => none
  | .lc d elt t (.itr _ args) cs, Γ => lcT d t (tchE elt ++ tchEs cs) (itrI (typEs T args Γ)) (fun Γ1 => typAll T cs Γ1) fun Γ1 => typE T elt Γ1
  | .lc d elt t it cs, Γ => lcT d t (tchE elt ++ tchEs cs) (plnI (typE T it Γ)) (fun Γ1 => typAll T cs Γ1) fun Γ1 => typE T elt Γ1
  | .lc2 d elt t it t2 it2 cs, Γ => none
  | .dc d k v t it cs, Γ => none
  | .isi e _, Γ => match typE T e Γ with
    | some (_, Γ') => some ((.cl, none), Γ')
    | none => none
  | .fld e _ _, Γ => match typE T e Γ with
    | some (_, Γ') => some ((.cl, none), Γ')
    | none => none
/-- arguments: what is borrowed stands till all are worked; names are read last -/
def typEs (T : List FnA) : List E → List Gt → Option (List TR × List Gt)
  | [], Γ => some ([], Γ)
  | e :: es, Γ => match e.late with
    | true => (match typE T e Γ, typEs T es Γ with
      | some _, some (rs, Γ') => (match typE T e Γ' with
        | some (r, Γ'') => some (r :: rs, Γ'')
        | none => none)
      | _, _ => none)
    | false => (match typE T e Γ with
      | some (r, Γ') => (match typEs T es Γ' with
        | some (rs, Γ'') => if srcFree (tchEs es) r.2 = true then some (r :: rs, Γ'') else none
        | none => none)
      | none => none)
def typO (T : List FnA) : Option E → List Gt → Bool
  | none, _ => true
  | some e, Γ => match typE T e Γ with
    | some (_, Γ') => decide (Γ' = Γ)
    | none => false
def typAll (T : List FnA) : List E → List Gt → Bool
  | [], _ => true
  | e :: es, Γ => (match typE T e Γ with
    | some (_, Γ') => decide (Γ' = Γ)
    | none => false) && typAll T es Γ
end
def flowOut (d : FnA) : Flow → Res (PV × Option PV)
  | .next env => (outOf d env).bind fun o => .ok (.non, o)
  | .ret v env => (outOf d env).bind fun o => need (cleanB d.dr v = true) (.ok (v, o))
  | _ => .stuck
theorem runFn_eq {G : Ctx} {d : FnA} {pvs : List PV} (h : pvs.length = d.np) : runFn G d pvs = (evalSs G d.body (d.start pvs)).bind (flowOut d) := by
  unfold runFn need
  rw [if_pos h]
  congr 1
noncomputable def ctxN (T : List FnA) (k : Nat) : Ctx := ⟨fun g => (T[g]?).map FnA.sig, callN T k⟩
theorem callN_succ {T : List FnA} {k f : Nat} {g : FnA} (h : T[f]? = some g) : callN T (k + 1) f = runFn (ctxN T k) g := by
  funext vs
  simp only [callN, h]
  rfl
end OI
set_option maxRecDepth 100000
set_option maxHeartbeats 2000000
/-! OI1: how values lie in the abstract heap. -/
namespace OI
open PySem PySem.Spec PyProof.Rows L2
/-- what never changes -/
def imm : HO → Bool
  | .tup _ => true
  | .frz _ _ => true
  | _ => false
inductive PK1 : PV → Key → Prop where
  | int (i : Int) : PK1 (.int i) (.inl i)
  | str (x : Str) : PK1 (.str x) (.inr x)
abbrev PKs1 : List PV → List Key → Prop := Paired PK1
inductive PKt : PV → List Key → Prop where
  | tup {xs : List PV} {q : List Key} : PKs1 xs q → PKt (.tup xs) q
abbrev PKs2 : List PV → List (List Key) → Prop := Paired PKt
/-- a dict of these keys and values -/
inductive Dct : Bool → HO → List PV → List V → Prop where
  | k {kvs : List (Key × V)} {ks : List PV} : PKs1 ks (kvs.map (·.1)) → (kvs.map (·.1)).Nodup → Dct false (.dK kvs) ks (kvs.map (·.2))
  | t {kvs : List (List Key × V)} {ks : List PV} : PKs2 ks (kvs.map (·.1)) → (kvs.map (·.1)).Nodup → Dct true (.dT kvs) ks (kvs.map (·.2))
/-- a list that stands as it is: frozen -/
def SqZ (K : PySem.W.Frag) (H : Hp) (Z : Addr → Prop) (a : Addr) (ws : List V) : Prop := Rd H a (.lst ws) ∧ Z a
mutual
/-- the value v lies at w: its d outer levels of lists and dicts are one's own, at F; what is deeper is frozen -/
inductive Rep (K : PySem.W.Frag) (H : Hp) (Z : Addr → Prop) : Nat → PV → V → List Addr → Prop
  | non {d : Nat} : Rep K H Z d .non .non []
  | bl {d : Nat} (b : Bool) : Rep K H Z d (.bl b) (.bl b) []
  | int {d : Nat} (i : Int) : Rep K H Z d (.int i) (.int i) []
  | str {d : Nat} (x : Str) : Rep K H Z d (.str x) (.str x) []
  | tup0 {xs : List PV} {a : Addr} {ws : List V} {F : List Addr} : H a = some (.tup ws) → Reps K H Z 0 xs ws F → Rep K H Z 0 (.tup xs) (.ref a) F
  | tupS {d : Nat} {xs : List PV} {a : Addr} {ws : List V} {F : List Addr} : H a = some (.tup ws) → Reps K H Z d xs ws F → Rep K H Z (d + 1) (.tup xs) (.ref a) F
  | lst0 {xs : List PV} {a : Addr} {ws : List V} {F : List Addr} : SqZ K H Z a ws → Reps K H Z 0 xs ws F → Rep K H Z 0 (.lst xs) (.ref a) []
  | lstS {d : Nat} {xs : List PV} {a : Addr} {ws : List V} {F : List Addr} : H a = some (.lst ws) → Reps K H Z d xs ws F → a ∉ F → Rep K H Z (d + 1) (.lst xs) (.ref a) (a :: F)
  | dct0 {t : Bool} {ks vs : List PV} {a : Addr} {u : HO} {ws : List V} {F : List Addr} : H a = some u → Z a → Dct t u ks ws → Reps K H Z 0 vs ws F → Rep K H Z 0 (.dct t ks vs) (.ref a) []
  | dctS {d : Nat} {t : Bool} {ks vs : List PV} {a : Addr} {u : HO} {ws : List V} {F : List Addr} : H a = some u → Dct t u ks ws → Reps K H Z d vs ws F → a ∉ F → Rep K H Z (d + 1) (.dct t ks vs) (.ref a) (a :: F)
inductive Reps (K : PySem.W.Frag) (H : Hp) (Z : Addr → Prop) : Nat → List PV → List V → List Addr → Prop
  | nil {d : Nat} : Reps K H Z d [] [] []
  | cons {d : Nat} {x : PV} {xs : List PV} {w : V} {ws : List V} {F G : List Addr} : Rep K H Z d x w F → Reps K H Z d xs ws G → (∀ a ∈ F, a ∉ G) → Reps K H Z d (x :: xs) (w :: ws) (F ++ G)
end
section
variable {K : PySem.W.Frag} {H : Hp} {Z : Addr → Prop}
mutual
theorem Rep.zeroF {v : PV} {w : V} {F : List Addr} (h : Rep K H Z 0 v w F) : F = [] := by
  cases h with
  | tup0 h1 h2 => exact Reps.zeroF h2
  | _ => rfl
theorem Reps.zeroF {vs : List PV} {ws : List V} {F : List Addr} (h : Reps K H Z 0 vs ws F) : F = [] := by
  cases h with
  | nil => rfl
  | cons h1 h2 h3 => rw [Rep.zeroF h1, Reps.zeroF h2]; rfl
end
end
/-- what stands is kept, but for W's own -/
def Kp (W : Addr → Prop) (H H' : Hp) : Prop := ∀ a o, H a = some o → (imm o = true ∨ ¬ W a) → H' a = some o
section
variable {K : PySem.W.Frag} {H H' : Hp} {Z Z' W : Addr → Prop}
theorem Kp.refl : Kp W H H := fun _ _ e _ => e
theorem Kp.tupR (k : Kp W H H') {a : Addr} {ws : List V} (h : H a = some (.tup ws)) : H' a = some (.tup ws) := k _ _ h (.inl rfl)
theorem Kp.rdZ (k : Kp W H H') {a : Addr} {u : HO} (h : Rd H a u) (hw : ¬ W a) : Rd H' a u := by
  rcases h with h | ⟨o, h⟩
  · exact .inl (k _ _ h (.inr hw))
  · exact .inr ⟨o, k _ _ h (.inl rfl)⟩
mutual
theorem Rep.keep {d : Nat} {v : PV} {w : V} {F : List Addr} (k : Kp W H H') (hF : ∀ a ∈ F, ¬ W a) (hZ : ∀ a, Z a → ¬ W a) (hz : ∀ a, Z a → Z' a) (h : Rep K H Z d v w F) : Rep K H' Z' d v w F := by
  cases h with
  | non => exact .non
  | bl b => exact .bl b
  | int i => exact .int i
  | str x => exact .str x
  | tup0 h1 h2 => exact .tup0 (k.tupR h1) (Reps.keep k hF hZ hz h2)
  | tupS h1 h2 => exact .tupS (k.tupR h1) (Reps.keep k hF hZ hz h2)
  | lst0 h1 h2 =>
    refine .lst0 ?_ (Reps.keep k (Reps.zeroF h2 ▸ fun _ z => nomatch z) hZ hz h2)
    exact ⟨k.rdZ h1.1 (hZ _ h1.2), hz _ h1.2⟩
  | lstS h1 h2 h3 => exact .lstS (k _ _ h1 (.inr (hF _ List.mem_cons_self))) (Reps.keep k (fun a ha => hF a (List.mem_cons_of_mem _ ha)) hZ hz h2) h3
  | dct0 h1 h2 h3 h4 => exact .dct0 (k _ _ h1 (.inr (hZ _ h2))) (hz _ h2) h3 (Reps.keep k (Reps.zeroF h4 ▸ fun _ z => nomatch z) hZ hz h4)
  | dctS h1 h2 h3 h4 => exact .dctS (k _ _ h1 (.inr (hF _ List.mem_cons_self))) h2 (Reps.keep k (fun a ha => hF a (List.mem_cons_of_mem _ ha)) hZ hz h3) h4
theorem Reps.keep {d : Nat} {vs : List PV} {ws : List V} {F : List Addr} (k : Kp W H H') (hF : ∀ a ∈ F, ¬ W a) (hZ : ∀ a, Z a → ¬ W a) (hz : ∀ a, Z a → Z' a) (h : Reps K H Z d vs ws F) : Reps K H' Z' d vs ws F := by
  cases h with
  | nil => exact .nil
  | cons h1 h2 h3 => exact .cons (Rep.keep k (fun a ha => hF a (List.mem_append_left _ ha)) hZ hz h1) (Reps.keep k (fun a ha => hF a (List.mem_append_right _ ha)) hZ hz h2) h3
end
end
section
variable {K : PySem.W.Frag} {H H' : Hp} {Z Z' W : Addr → Prop}
theorem Dct.notImm {t : Bool} {u : HO} {ks : List PV} {ws : List V} (h : Dct t u ks ws) : imm u = false := by cases h <;> rfl
mutual
theorem Rep.trk {d : Nat} {v : PV} {w : V} {F : List Addr} (h : Rep K H Z d v w F) : ∀ a ∈ F, ∃ o, H a = some o ∧ imm o = false := by
  cases h with
  | tup0 h1 h2 => exact Reps.trk h2
  | tupS h1 h2 => exact Reps.trk h2
  | lstS h1 h2 h3 =>
    intro a ha
    rcases List.mem_cons.mp ha with rfl | ha
    · exact ⟨_, h1, rfl⟩
    · exact Reps.trk h2 a ha
  | dctS h1 h2 h3 h4 =>
    intro a ha
    rcases List.mem_cons.mp ha with rfl | ha
    · exact ⟨_, h1, h2.notImm⟩
    · exact Reps.trk h3 a ha
  | _ => intro a ha; cases ha
theorem Reps.trk {d : Nat} {vs : List PV} {ws : List V} {F : List Addr} (h : Reps K H Z d vs ws F) : ∀ a ∈ F, ∃ o, H a = some o ∧ imm o = false := by
  cases h with
  | nil => intro a ha; cases ha
  | cons h1 h2 h3 =>
    intro a ha
    rcases List.mem_append.mp ha with ha | ha
    · exact Rep.trk h1 a ha
    · exact Reps.trk h2 a ha
end
mutual
/-- all of it frozen -/
theorem Rep.freeze {d : Nat} {v : PV} {w : V} {F : List Addr} (hz : ∀ a, Z a → Z' a) (hF : ∀ a ∈ F, Z' a) (h : Rep K H Z d v w F) : Rep K H Z' 0 v w [] := by
  cases h with
  | non => exact .non
  | bl b => exact .bl b
  | int i => exact .int i
  | str x => exact .str x
  | tup0 h1 h2 => exact .tup0 h1 (Reps.freeze hz hF h2)
  | tupS h1 h2 => exact .tup0 h1 (Reps.freeze hz hF h2)
  | lst0 h1 h2 =>
    refine .lst0 ?_ (Reps.freeze hz (Reps.zeroF h2 ▸ fun _ z => nomatch z) h2)
    exact ⟨h1.1, hz _ h1.2⟩
  | lstS h1 h2 h3 => exact .lst0 ⟨.inl h1, hF _ List.mem_cons_self⟩ (Reps.freeze hz (fun a ha => hF a (List.mem_cons_of_mem _ ha)) h2)
  | dct0 h1 h2 h3 h4 => exact .dct0 h1 (hz _ h2) h3 (Reps.freeze hz (Reps.zeroF h4 ▸ fun _ z => nomatch z) h4)
  | dctS h1 h2 h3 h4 => exact .dct0 h1 (hF _ List.mem_cons_self) h2 (Reps.freeze hz (fun a ha => hF a (List.mem_cons_of_mem _ ha)) h3)
theorem Reps.freeze {d : Nat} {vs : List PV} {ws : List V} {F : List Addr} (hz : ∀ a, Z a → Z' a) (hF : ∀ a ∈ F, Z' a) (h : Reps K H Z d vs ws F) : Reps K H Z' 0 vs ws [] := by
  cases h with
  | nil => exact .nil
  | cons h1 h2 h3 =>
    have e := Reps.cons (Rep.freeze hz (fun a ha => hF a (List.mem_append_left _ ha)) h1) (Reps.freeze hz (fun a ha => hF a (List.mem_append_right _ ha)) h2) (fun a ha => nomatch ha)
    exact e
end
theorem Reps.length {d : Nat} {vs : List PV} {ws : List V} {F : List Addr} (h : Reps K H Z d vs ws F) : vs.length = ws.length := by
  induction vs generalizing ws F with
  | nil => cases h; rfl
  | cons v vs ih => cases h with | cons h1 h2 h3 => simp [ih h2]
theorem Rep.tupD {d : Nat} {xs : List PV} {a : Addr} {ws : List V} (h : H a = some (.tup ws)) (r : ∀ d, Reps K H Z d xs ws []) : Rep K H Z d (.tup xs) (.ref a) [] := by
  cases d with
  | zero => exact .tup0 h (r 0)
  | succ d => exact .tupS h (r d)
/-- nothing in it may be changed -/
theorem rep_clean : ∀ (n : Nat) {d : Nat} {v : PV} {w : V} {F : List Addr}, clean n v = true → Rep K H Z d v w F → F = [] ∧ ∀ (Z' : Addr → Prop) (d' : Nat), Rep K H Z' d' v w []
  | 0, _, _, _, _, c, _ => by simp [clean] at c
  | n + 1, d, v, w, F, c, h => by
    have key : ∀ (d : Nat) (xs : List PV) (ws : List V) (F : List Addr), (∀ x ∈ xs, clean n x = true) → Reps K H Z d xs ws F → F = [] ∧ ∀ (Z' : Addr → Prop) (d' : Nat), Reps K H Z' d' xs ws [] := by
      intro d xs
      induction xs with
      | nil => intro ws F _ r; cases r; exact ⟨rfl, fun _ _ => .nil⟩
      | cons x xs ih =>
        intro ws F cx r
        cases r with
        | cons r1 r2 r3 =>
          obtain ⟨e1, q1⟩ := rep_clean n (cx x List.mem_cons_self) r1
          obtain ⟨e2, q2⟩ := ih _ _ (fun y hy => cx y (List.mem_cons_of_mem _ hy)) r2
          subst e1 e2
          exact ⟨rfl, fun Z' d' => Reps.cons (F := []) (G := []) (q1 Z' d') (q2 Z' d') (fun a ha => nomatch ha)⟩
    cases h with
    | non => exact ⟨rfl, fun _ _ => .non⟩
    | bl b => exact ⟨rfl, fun _ _ => .bl b⟩
    | int i => exact ⟨rfl, fun _ _ => .int i⟩
    | str x => exact ⟨rfl, fun _ _ => .str x⟩
    | tup0 h1 h2 =>
      obtain ⟨e, q⟩ := key _ _ _ _ (by simpa [clean] using c) h2
      exact ⟨e, fun Z' d' => .tupD h1 (q Z')⟩
    | tupS h1 h2 =>
      obtain ⟨e, q⟩ := key _ _ _ _ (by simpa [clean] using c) h2
      exact ⟨e, fun Z' d' => .tupD h1 (q Z')⟩
    | lst0 h1 h2 => simp [clean] at c
    | lstS h1 h2 h3 => simp [clean] at c
    | dct0 h1 h2 h3 h4 => simp [clean] at c
    | dctS h1 h2 h3 h4 => simp [clean] at c
end
end OI
set_option maxRecDepth 100000
set_option maxHeartbeats 2000000
/-! OI2: states, steps, what is wished of the machine. -/
namespace OI
abbrev St := L2.St
open PySem PySem.Spec PyProof.Rows L2
/-! ### wishes, as the most general readings -/
def WE (X : Cx) (e : Expr) : TE := fun σ H Q => ∀ (pins : List (Addr × Obj)) (s : Shared), Inv X pins σ H s → wpAny (model X.prog X.w) X.A (eval e X.env) (EP X pins σ Q) X.xe s
def WT (X : Cx) (e : Expr) : TT := fun σ H Q => ∀ (pins : List (Addr × Obj)) (s : Shared), Inv X pins σ H s → wpAny (model X.prog X.w) X.A (isTrue e X.env (eval e X.env)) (TP X pins σ Q) X.xe s
def WW (X : Cx) (e : Expr) : TT := fun σ H Q => ∀ (whole : Sem Value) (pins : List (Addr × Obj)) (s : Shared), Inv X pins σ H s → wpAny (model X.prog X.w) X.A (isTrue e X.env whole) (TP X pins σ Q) X.xe s
def WA (X : Cx) (es : List Expr) : TA := fun σ H Q => ∀ (pos : Pos) (pins : List (Addr × Obj)) (s : Shared), Inv X pins σ H s → wpAny (model X.prog X.w) X.A (spliced (backTo pos (starEach es X.env))) (AP X pins σ Q) X.xe s
def WS (X : Cx) (st : Stmt) : TS := fun D σ H => ∀ (pins : List (Addr × Obj)) (s : Shared), Inv X pins σ H s → wpAny (model X.prog X.w) X.A (exec st X.env) (SP X pins D) X.xe s
def WSs (X : Cx) (st : List Stmt) : TS := fun D σ H => ∀ (pins : List (Addr × Obj)) (s : Shared), Inv X pins σ H s → wpAny (model X.prog X.w) X.A (execs st X.env) (SP X pins D) X.xe s
/-- expressions one behind the other -/
def WL (X : Cx) : List Expr → TA
  | [] => fun _ H Q => Q [] H
  | e :: es => fun σ H Q => WE X e σ H fun x H1 => WL X es σ H1 fun xs H2 => Q (x :: xs) H2
section
variable {X : Cx} {e : Expr} {es : List Expr} {st : Stmt} {sts : List Stmt} {σ : St} {H : Hp}
theorem pe_we : PE X e (WE X e) := ⟨fun pins s σ H Q I h => h pins s I⟩
theorem pt_wt : PT X e (WT X e) := ⟨fun pins s σ H Q I h => h pins s I⟩
theorem pw_ww : PW X e (WW X e) := ⟨fun wh pins s σ H Q I h => h wh pins s I⟩
theorem pa_wa : PA X es (WA X es) := ⟨fun pos pins s σ H Q I h => h pos pins s I⟩
theorem ps_ws : PS X st (WS X st) := ⟨fun pins s σ H D I h => h pins s I⟩
theorem pss_ws : PSs X sts (WSs X sts) := ⟨fun pins s σ H D I h => h pins s I⟩
theorem WE.of {t : TE} {Q : VK} (p : PE X e t) (h : t σ H Q) : WE X e σ H Q := fun pins s I => p.run pins s σ H Q I h
theorem WT.of {t : TT} {Q : Bool → Hp → Prop} (p : PT X e t) (h : t σ H Q) : WT X e σ H Q := fun pins s I => p.run pins s σ H Q I h
theorem WW.of {t : TT} {Q : Bool → Hp → Prop} (p : PW X e t) (h : t σ H Q) : WW X e σ H Q := fun wh pins s I => p.run wh pins s σ H Q I h
theorem WA.of {t : TA} {Q : List V → Hp → Prop} (p : PA X es t) (h : t σ H Q) : WA X es σ H Q := fun pos pins s I => p.run pos pins s σ H Q I h
theorem WS.of {t : TS} {D : Ends} (p : PS X st t) (h : t D σ H) : WS X st D σ H := fun pins s I => p.run pins s σ H D I h
theorem WSs.of {t : TS} {D : Ends} (p : PSs X sts t) (h : t D σ H) : WSs X sts D σ H := fun pins s I => p.run pins s σ H D I h
theorem EP.imp {pins : List (Addr × Obj)} {Q Q' : VK} {u : Value} {s : Shared} (h : ∀ v H, Q v H → Q' v H) (p : EP X pins σ Q u s) : EP X pins σ Q' u s := let ⟨v, H', I, r, q⟩ := p; ⟨v, H', I, r, h _ _ q⟩
theorem WE.imp {Q Q' : VK} (w : WE X e σ H Q) (h : ∀ v H, Q v H → Q' v H) : WE X e σ H Q' := fun pins s I => thn (w pins s I) fun u s' p => EP.imp h p
theorem WT.imp {Q Q' : Bool → Hp → Prop} (w : WT X e σ H Q) (h : ∀ v H, Q v H → Q' v H) : WT X e σ H Q' := fun pins s I => thn (w pins s I) fun u s' p => let ⟨H', I, q⟩ := p; ⟨H', I, h _ _ q⟩
theorem WA.imp {Q Q' : List V → Hp → Prop} (w : WA X es σ H Q) (h : ∀ v H, Q v H → Q' v H) : WA X es σ H Q' := fun pos pins s I => thn (w pos pins s I) fun u s' p => let ⟨vs, H', I, r, q⟩ := p; ⟨vs, H', I, r, h _ _ q⟩
end
/-! ### states -/
structure ASt where
  env : Env
  G : List Gt
  Fs : Nat → List Addr
  Z : Addr → Prop
  H : Hp
def RepT (K : PySem.W.Frag) (H : Hp) (Z : Addr → Prop) : Tp → PV → V → List Addr → Prop
  | .cl, v, w, F => F = [] ∧ (∃ n, clean n v = true) ∧ Rep K H Z 0 v w []
  | .d n, v, w, F => Rep K H Z n v w F
def keyOf : PV → Option Key
  | .int i => some (.inl i)
  | .str x => some (.inr x)
  | _ => none
def keysOf : PV → Option (List Key)
  | .tup xs => xs.mapM keyOf
  | _ => none
/-- what an object holds at a key -/
def hoAt : HO → PV → Option V
  | .lst ws, .int i => atP ws i
  | .tup ws, .int i => atP ws i
  | .dK kvs, k => (keyOf k).bind fun q => valV kvs q
  | .dT kvs, k => (keysOf k).bind fun q => valV kvs q
  | _, _ => none
/-- what stands at a path from w on -/
inductive Follow (H : Hp) : V → List PV → V → Prop
  | nil {w : V} : Follow H w [] w
  | step {a : Addr} {o : HO} {k : PV} {ks : List PV} {u w : V} : H a = some o → hoAt o k = some u → Follow H u ks w → Follow H (.ref a) (k :: ks) w
theorem Follow.det {H : Hp} {w u u' : V} {ks : List PV} (h : Follow H w ks u) (h' : Follow H w ks u') : u = u' := by
  induction h with
  | nil => cases h'; rfl
  | step h1 h2 _ ih =>
    cases h' with
    | step h1' h2' h3' =>
      rw [h1] at h1'
      cases h1'
      rw [h2] at h2'
      cases h2'
      exact ih h3'
structure Ok (K : PySem.W.Frag) (σ : St) (S : ASt) : Prop where
  len : S.env.length = σ.length
  slot : ∀ (i : Nat) (τ : Tp) (v : PV), S.G[i]? = some (.t τ) → S.env[i]? = some (some v) → ∃ w, σ[i]? = some (some w) ∧ RepT K S.H S.Z τ v w (S.Fs i)
  no : ∀ i : Nat, ((∀ τ, S.G[i]? ≠ some (.t τ)) ∨ (∀ v, S.env[i]? ≠ some (some v))) → S.Fs i = []
  al : ∀ (y x : Nat) (ks : List Kc), S.G[y]? = some (.al x ks) → ∃ wx wy, σ[x]? = some (some wx) ∧ σ[y]? = some (some wy) ∧ ∀ H' : Hp, (∀ a ∈ S.Fs x, ∀ o, S.H a = some o → H' a = some o) → Follow H' wx (ks.map Kc.v) wy
  apart : ∀ i j : Nat, i ≠ j → ∀ a ∈ S.Fs i, a ∉ S.Fs j
  nz : ∀ i, ∀ a ∈ S.Fs i, ¬ S.Z a
  trk : ∀ i, ∀ a ∈ S.Fs i, ∃ o, S.H a = some o ∧ imm o = false
  ztr : ∀ a, S.Z a → S.H a ≠ none
abbrev Wr (M : List Nat) (S : ASt) : Addr → Prop := fun a => ∃ i ∈ M, a ∈ S.Fs i
/-- from S to S': only the slots of M were touched -/
structure Stp (M : List Nat) (S S' : ASt) : Prop where
  env : ∀ i : Nat, i ∉ M → S'.env[i]? = S.env[i]?
  fs : ∀ i : Nat, i ∉ M → S'.Fs i = S.Fs i
  keep : Kp (Wr M S) S.H S'.H
  z : ∀ a, S.Z a → S'.Z a
  znew : ∀ a, S'.Z a → S.Z a ∨ S.H a = none ∨ Wr M S a
  fnew : ∀ i a, a ∈ S'.Fs i → a ∈ S.Fs i ∨ S.H a = none ∨ Wr M S a
  live : ∀ a, S.H a ≠ none → S'.H a ≠ none
section
variable {K : PySem.W.Frag} {σ : St} {S S' S'' : ASt} {M M' : List Nat}
theorem Stp.refl : Stp M S S := ⟨fun _ _ => rfl, fun _ _ => rfl, .refl, fun _ h => h, fun _ h => .inl h, fun _ _ h => .inl h, fun _ h => h⟩
theorem Stp.mono (h : Stp M S S') (hs : ∀ i ∈ M, i ∈ M') : Stp M' S S' :=
  ⟨fun i n => h.env i fun m => n (hs i m), fun i n => h.fs i fun m => n (hs i m), fun a o e p => h.keep a o e (p.imp id fun n ⟨i, m, q⟩ => n ⟨i, hs i m, q⟩), h.z, fun a z => (h.znew a z).imp id (Or.imp id fun ⟨i, m, q⟩ => ⟨i, hs i m, q⟩),
    fun i a z => (h.fnew i a z).imp id (Or.imp id fun ⟨i, m, q⟩ => ⟨i, hs i m, q⟩), h.live⟩
theorem Stp.trans (h : Stp M S S') (h' : Stp M S' S'') : Stp M S S'' where
  env := fun i n => (h'.env i n).trans (h.env i n)
  fs := fun i n => (h'.fs i n).trans (h.fs i n)
  keep := fun a o e p => by
    refine h'.keep a o (h.keep a o e p) (p.imp id fun n ⟨i, m, q⟩ => ?_)
    rcases h.fnew i a q with q | q | q
    · exact n ⟨i, m, q⟩
    · rw [e] at q; cases q
    · exact n q
  z := fun a z => h'.z a (h.z a z)
  znew := fun a z => by
    rcases h'.znew a z with z | z | ⟨i, m, q⟩
    · exact h.znew a z
    · refine .inr (.inl ?_)
      cases e : S.H a with
      | none => rfl
      | some o => exact absurd z (h.live a (by simp [e]))
    · rcases h.fnew i a q with q | q | q
      · exact .inr (.inr ⟨i, m, q⟩)
      · exact .inr (.inl q)
      · exact .inr (.inr q)
  fnew := fun i a z => by
    rcases h'.fnew i a z with z | z | ⟨j, m, q⟩
    · exact h.fnew i a z
    · refine .inr (.inl ?_)
      cases e : S.H a with
      | none => rfl
      | some o => exact absurd z (h.live a (by simp [e]))
    · rcases h.fnew j a q with q | q | q
      · exact .inr (.inr ⟨j, m, q⟩)
      · exact .inr (.inl q)
      · exact .inr (.inr q)
  live := fun a z => h'.live a (h.live a z)
/-- a value in hand: its own objects at F; src: the slot that it is borrowed of -/
structure Tmp (K : PySem.W.Frag) (S : ASt) (τ : Tp) (src : Option Nat) (v : PV) (w : V) (F : List Addr) : Prop where
  rep : RepT K S.H S.Z τ v w F
  own : src = none → ∀ i, ∀ a ∈ F, a ∉ S.Fs i
  bor : ∀ x, src = some x → ∀ a ∈ F, a ∈ S.Fs x
  nz : ∀ a ∈ F, ¬ S.Z a
theorem RepT.trk {H : Hp} {Z : Addr → Prop} {τ : Tp} {v : PV} {w : V} {F : List Addr} (h : RepT K H Z τ v w F) : ∀ a ∈ F, ∃ o, H a = some o ∧ imm o = false := by
  cases τ with
  | cl => obtain ⟨e, _⟩ := h; subst e; intro a ha; cases ha
  | d n => exact Rep.trk h
theorem RepT.keep {H H' : Hp} {Z Z' W : Addr → Prop} {τ : Tp} {v : PV} {w : V} {F : List Addr} (k : Kp W H H') (hF : ∀ a ∈ F, ¬ W a) (hZ : ∀ a, Z a → ¬ W a) (hz : ∀ a, Z a → Z' a) (h : RepT K H Z τ v w F) : RepT K H' Z' τ v w F := by
  cases τ with
  | cl => obtain ⟨e, c, r⟩ := h; exact ⟨e, c, r.keep k (fun _ z => nomatch z) hZ hz⟩
  | d n => exact Rep.keep k hF hZ hz h
theorem Ok.zW (o : Ok K σ S) : ∀ a, S.Z a → ¬ Wr M S a := fun a z ⟨i, _, q⟩ => o.nz i a q z
theorem Tmp.apart (o : Ok K σ S) {τ : Tp} {src : Option Nat} {v : PV} {w : V} {F : List Addr} (t : Tmp K S τ src v w F) (hs : ∀ x, src = some x → x ∉ M) : ∀ a ∈ F, ¬ Wr M S a := fun a ha ⟨i, m, q⟩ => by
  cases src with
  | none => exact t.own rfl i a ha q
  | some x =>
    have hx := t.bor x rfl a ha
    have ne : x ≠ i := fun e => hs x rfl (e ▸ m)
    exact o.apart x i ne a hx q
/-- it stays in hand -/
theorem Tmp.step (o : Ok K σ S) (h : Stp M S S') {τ : Tp} {src : Option Nat} {v : PV} {w : V} {F : List Addr} (t : Tmp K S τ src v w F) (hs : ∀ x, src = some x → x ∉ M) : Tmp K S' τ src v w F where
  rep := t.rep.keep h.keep (t.apart o hs) o.zW h.z
  own := fun e i a ha q => by
    obtain ⟨ob, eo, _⟩ := t.rep.trk a ha
    rcases h.fnew i a q with q | q | q
    · exact t.own e i a ha q
    · rw [eo] at q; cases q
    · exact t.apart o hs a ha q
  bor := fun x e a ha => by rw [h.fs x (hs x e)]; exact t.bor x e a ha
  nz := fun a ha z => by
    obtain ⟨ob, eo, _⟩ := t.rep.trk a ha
    rcases h.znew a z with z | z | z
    · exact t.nz a ha z
    · rw [eo] at z; cases z
    · exact t.apart o hs a ha z
end
/-- the state with a heap that has more -/
abbrev ASt.atH (S : ASt) (H : Hp) : ASt := { S with H := H }
/-- .. with objects frozen -/
abbrev ASt.frz (S : ASt) (F : List Addr) : ASt := { S with Z := fun a => S.Z a ∨ a ∈ F }
section
variable {K : PySem.W.Frag} {σ : St} {S S' S'' : ASt} {M M' : List Nat}
theorem kp_new {W : Addr → Prop} {H : Hp} {p : Addr} {o : HO} (hp : H p = none) : Kp W H (upd H p o) := fun a u e _ => by
  rw [upd_ne (ne_of_none e hp)]; exact e
theorem Follow.keep {H H' : Hp} {W : Addr → Prop} (k : Kp W H H') (hw : ∀ a, ¬ W a) {w : V} {ks : List PV} {u : V} (f : Follow H w ks u) : Follow H' w ks u := by
  induction f with
  | nil => exact .nil
  | step h1 h2 _ ih => exact .step (k _ _ h1 (.inr (hw _))) h2 ih
theorem Follow.snoc {H : Hp} {w u : V} {ks : List PV} {k : PV} (h : Follow H w (ks ++ [k]) u) : ∃ a o, Follow H w ks (.ref a) ∧ H a = some o ∧ hoAt o k = some u := by
  induction ks generalizing w with
  | nil =>
    cases h with
    | step h1 h2 h3 => cases h3; exact ⟨_, _, .nil, h1, h2⟩
  | cons q ks ih =>
    cases h with
    | step h1 h2 h3 =>
      obtain ⟨a, o, f, e1, e2⟩ := ih h3
      exact ⟨a, o, .step h1 h2 f, e1, e2⟩
theorem Follow.app {H : Hp} {w u v : V} {ks qs : List PV} (h : Follow H w ks u) (h' : Follow H u qs v) : Follow H w (ks ++ qs) v := by
  induction h with
  | nil => exact h'
  | step h1 h2 _ ih => exact .step h1 h2 (ih h')
theorem Follow.split {H : Hp} {w v : V} {ks qs : List PV} (h : Follow H w (ks ++ qs) v) : ∃ u, Follow H w ks u ∧ Follow H u qs v := by
  induction ks generalizing w with
  | nil => exact ⟨w, .nil, h⟩
  | cons k ks ih =>
    cases h with
    | step h1 h2 h3 =>
      obtain ⟨u, a, b⟩ := ih h3
      exact ⟨u, .step h1 h2 a, b⟩
/-- an object more -/
theorem Stp.alloc {p : Addr} {o : HO} (hp : S.H p = none) : Stp M S (S.atH (upd S.H p o)) where
  env := fun _ _ => rfl
  fs := fun _ _ => rfl
  keep := kp_new hp
  z := fun _ h => h
  znew := fun _ h => .inl h
  fnew := fun _ _ h => .inl h
  live := fun a z => by
    by_cases e : a = p
    · subst e; exact absurd hp z
    · show upd S.H p o a ≠ none
      rw [upd_ne e]; exact z
theorem Ok.alloc {p : Addr} {o : HO} (k : Ok K σ S) (hp : S.H p = none) : Ok K σ (S.atH (upd S.H p o)) where
  len := k.len
  slot := fun i τ v h1 h2 => let ⟨w, e, r⟩ := k.slot i τ v h1 h2; ⟨w, e, r.keep (W := fun _ => False) (kp_new hp) (fun _ _ z => z) (fun _ _ z => z) (fun _ z => z)⟩
  no := k.no
  al := fun y x ks h => let ⟨wx, wy, e1, e2, f⟩ := k.al y x ks h; ⟨wx, wy, e1, e2, fun H' hk => f H' fun a ha o' e => hk a ha o' (by show upd S.H p o a = _; rw [upd_ne (ne_of_none e hp)]; exact e)⟩
  apart := k.apart
  nz := k.nz
  trk := fun i a ha => by
    obtain ⟨u, e, z⟩ := k.trk i a ha
    exact ⟨u, by show upd S.H p o a = _; rw [upd_ne (ne_of_none e hp)]; exact e, z⟩
  ztr := fun a z => by
    show upd S.H p o a ≠ none
    have := k.ztr a z
    by_cases e : a = p
    · subst e; rw [upd_same]; simp
    · rw [upd_ne e]; exact this
/-- frozen: what is in hand, not a slot's -/
theorem Stp.frz {F : List Addr} (hF : ∀ a ∈ F, S.H a = none ∨ Wr M S a) : Stp M S (S.frz F) :=
  ⟨fun _ _ => rfl, fun _ _ => rfl, .refl, fun _ h => .inl h, fun a h => h.imp id (hF a), fun _ _ h => .inl h, fun _ h => h⟩
theorem Ok.frz {F : List Addr} (k : Ok K σ S) (hF : ∀ a ∈ F, S.H a ≠ none) (hs : ∀ i, ∀ a ∈ F, a ∉ S.Fs i) : Ok K σ (S.frz F) where
  len := k.len
  slot := fun i τ v h1 h2 => let ⟨w, e, r⟩ := k.slot i τ v h1 h2; ⟨w, e, r.keep (W := fun _ => False) .refl (fun _ _ z => z) (fun _ _ z => z) (fun _ z => .inl z)⟩
  no := k.no
  al := k.al
  apart := k.apart
  nz := fun i a ha z => z.elim (k.nz i a ha) fun z => hs i a z ha
  trk := k.trk
  ztr := fun a z => z.elim (k.ztr a) (hF a)
end
end OI
set_option maxRecDepth 100000
set_option maxHeartbeats 2000000
/-! OI3: the text against the small language. -/
namespace OI
open PySem PySem.Spec PyProof.Rows L2
def visB (sc : Scope) (x : Str) : Bool := match sc.names.lookup x with
  | some .local => true
  | some .cell => true
  | some .free => true
  | _ => false
def locB (sc : Scope) (x : Str) : Bool := match sc.names.lookup x with
  | some .local => true
  | some .cell => true
  | _ => false
def plainName (x : Str) : Bool := !(x == ("__debug__" : Str)) && !(x == ("__classdict__" : Str))
def nmB (N : List Str) (sc : Scope) (i : Nat) (x : Str) : Bool := decide (N[i]? = some x) && visB sc x && plainName x
def glB (sc : Scope) (x : Str) : Bool := decide (sc.names.lookup x = some .globalImplicit) && plainName x
/-- neither starred nor a set -/
def plainX : Expr → Bool
  | .Starred _ _ => false
  | .Set _ _ _ => false
  | _ => true
def notSlice : Expr → Bool
  | .Slice _ _ _ _ => false
  | _ => true
/-- not a call: super() may not stand there -/
def plainBase : Expr → Bool
  | .Call (.Name _ _) [] [] _ => false
  | _ => true
def unpath : Nat → Expr → Option (Expr × List Expr)
  | 0, e => some (e, [])
  | n + 1, .Subscript a i _ => (unpath n a).map fun r => (r.1, r.2 ++ [i])
  | _ + 1, _ => none
def Prim.nm : Prim → String
  | .len => "len" | .range => "range" | .enumerate => "enumerate" | .zip => "zip" | .reversed => "reversed" | .tuple => "tuple" | .list => "list" | .sorted => "sorted"
  | .sum => "sum" | .min => "min" | .max => "max" | .abs => "abs" | .int => "int" | .str => "str" | .all => "all" | .any => "any" | .set => "set" | .dict => "dict"
def Meth.nm : Meth → String
  | .get => "get" | .items => "items" | .keys => "keys" | .values => "values" | .index => "index" | .count => "count" | .join => "join" | .split => "split"
  | .startswith => "startswith" | .isdigit => "isdigit" | .isascii => "isascii" | .upper => "upper" | .replace => "replace" | .rstrip => "rstrip"
def Mut.nm : Mut → String
  | .append => "append" | .extend => "extend" | .insert => "insert" | .pop => "pop" | .sort => "sort" | .reverse => "reverse" | .remove => "remove" | .update => "update" | .clear => "clear"
def Ty.nm : Ty → String
  | .int => "int" | .bool => "bool" | .str => "str" | .tuple => "tuple" | .list => "list" | .dict => "dict" | .cls _ => ""
mutual
def meT (N : List Str) (sc : Scope) : Tg → Expr → Bool
  | .nm i, .Name x _ => decide (N[i]? = some x) && locB sc x
  | .tp ts, .Tuple es _ _ => meTs N sc ts es
  | _, _ => false
def meTs (N : List Str) (sc : Scope) : List Tg → List Expr → Bool
  | [], [] => true
  | t :: ts, e :: es => meT N sc t e && meTs N sc ts es
  | _, _ => false
end
/-- the comprehension's own names with their slots -/
def ownOf (N : List Str) (is : List Nat) : List (Str × Nat) := is.filterMap fun i => (N[i]?).map fun x => (x, i)
/-- the operands of two comparisons or more, in pairs -/
def ixOf (ps : List Str) (n : Nat) (ks : List Keyword) : List Nat := List.range n ++ ks.map fun k => (k.arg.bind fun x => ps.idxOf? x).getD 1000
def kwPlain : List Keyword → Bool
  | [] => true
  | k :: ks => k.arg.isSome && kwPlain ks
/-- what is walked in pairs is walked into a tuple of targets -/
def itTg : E → Expr → Bool
  | .itr .enumerate _, .Tuple _ _ _ => true
  | .itr .enumerate _, _ => false
  | .itr .zip _, .Tuple _ _ _ => true
  | .itr .zip _, _ => false
  | _, _ => true
def itAr : Prim → Nat → Bool
  | .range, n => n == 1 || n == 2 || n == 3
  | .enumerate, n => n == 1
  | .zip, n => n == 2
  | .reversed, n => n == 1
  | _, _ => false
def meTys (sc : Scope) : List Ty → List Expr → Bool
  | [], [] => true
  | t :: ts, .Name y _ :: ys => decide (Str.ofString t.nm = y) && decide (t.nm ≠ "") && glB sc y && meTys sc ts ys
  | _, _ => false
/-- a type, or a display of types -/
def meTy (sc : Scope) (ts : List Ty) : Expr → Bool
  | .Name y p => meTys sc ts [.Name y p]
  | .Tuple ys _ _ => decide (ts.length ≤ 100) && meTys sc ts ys
  | _ => false
def plainT : Expr → Bool
  | .UnaryOp .Not _ _ => false
  | .BoolOp _ _ _ => false
  | .IfExp _ _ _ _ => false
  | .Compare _ _ _ _ => false
  | _ => true
def notComp : Expr → Bool
  | .ListComp _ _ _ _ => false
  | .SetComp _ _ _ _ => false
  | .DictComp _ _ _ _ _ => false
  | _ => true
mutual
def sameC : PV → PV → Bool
  | .non, .non => true
  | .bl a, .bl b => a == b
  | .int a, .int b => decide (a = b)
  | .str a, .str b => decide (a = b)
  | .tup a, .tup b => sameCs a b
  | _, _ => false
def sameCs : List PV → List PV → Bool
  | [], [] => true
  | a :: r, b :: q => sameC a b && sameCs r q
  | _, _ => false
end
mutual
theorem sameC_eq : ∀ {a b : PV}, sameC a b = true → a = b
  | .non, .non, _ => rfl
  | .bl a, .bl b, h => by simp only [sameC, beq_iff_eq] at h; rw [h]
  | .int a, .int b, h => by simp only [sameC, decide_eq_true_eq] at h; rw [h]
  | .str a, .str b, h => by simp only [sameC, decide_eq_true_eq] at h; rw [h]
  | .tup a, .tup b, h => by simp only [sameC] at h; rw [sameCs_eq h]
theorem sameCs_eq : ∀ {a b : List PV}, sameCs a b = true → a = b
  | [], [], _ => rfl
  | a :: r, b :: q, h => by
    simp only [sameCs, Bool.and_eq_true] at h
    rw [sameC_eq h.1, sameCs_eq h.2]
  | [], _ :: _, h => by simp [sameCs] at h
  | _ :: _, [], h => by simp [sameCs] at h
end
/-- x is a constant of the module: v -/
def constB (T : List FnA) (x : String) (v : PV) : Bool := T.any fun d => d.gl.any fun p => decide (p.1 = x) && sameC p.2 v
/-- a display of a dict: key, value, key, value, .. -/
def weave : List (Option Expr) → List Expr → Option (List Expr)
  | [], [] => some []
  | some k :: ks, v :: vs => (weave ks vs).map fun r => k :: v :: r
  | _, _ => none
mutual
def meE (T : List FnA) (N : List Str) (sc : Scope) : E → Expr → Bool
  | .int n, q0 => match q0 with
    | .Constant (.int m) _ _ => decide (n = m)
    | _ => false
  | .str s, q0 => match q0 with
    | .Constant (.str z) _ _ => decide (Str.ofString s = z)
    | _ => false
  | .bl b, q0 => match q0 with
    | .Constant (.bool c) _ _ => b == c
    | _ => false
  | .non, q0 => match q0 with
    | .Constant .none _ _ => true
    | _ => false
  | .var i, q0 => match q0 with
    | .Name x _ => nmB N sc i x
    | _ => false
  | .mv i, q0 => match q0 with
    | .Name x _ => nmB N sc i x
    | _ => false
  | .fz _ e, q => plainT q && notComp q && meE T N sc e q
  | .cln e, q => plainT q && notComp q && meE T N sc e q
  | .gl x v, q0 => match q0 with
    | .Name y _ => decide (Str.ofString x = y) && glB sc y && constB T x v
    | _ => false
  | .pth p, q0 => match q0 with
    | .Name x _ => (match p.y with | some y => nmB N sc y x | none => false)
    | _ => false
  | .tup _ es, q0 => match q0 with
    | .Tuple qs _ _ => meEs T N sc es qs
    | _ => false
  | .lst _ es, q0 => match q0 with
    | .List qs _ => meEs T N sc es qs
    | _ => false
  | .bin _ op es, q0 => match q0 with
    | .BinOp a op' b _ => decide (op = op') && meEs T N sc es [a, b]
    | _ => false
  | .neg a, q0 => match q0 with
    | .UnaryOp .USub q _ => meE T N sc a q
    | _ => false
  | .not a, q0 => match q0 with
    | .UnaryOp .Not q _ => meE T N sc a q
    | _ => false
  | .and a b, q0 => match q0 with
    | .BoolOp .And (q :: r :: rs) pos => meE T N sc a q && meE T N sc b (match rs with | [] => r | _ => .BoolOp .And (r :: rs) pos)
    | _ => false
  | .or a b, q0 => match q0 with
    | .BoolOp .Or (q :: r :: rs) pos => meE T N sc a q && meE T N sc b (match rs with | [] => r | _ => .BoolOp .Or (r :: rs) pos)
    | _ => false
  | .ite c a b, q0 => match q0 with
    | .IfExp c' a' b' _ => meE T N sc c c' && (meE T N sc a a' && meE T N sc b b')
    | _ => false
  | .cmp op es, q0 => match q0 with
    | .Compare a [op'] [b] _ => decide (op = op') && !behindInMarks op b && meEs T N sc es [a, b]
    | _ => false
  | .inK b e x vs, q0 => match q0 with
    | .Compare a [op'] [.Name y _] _ => decide ((if b = true then CmpOp.NotIn else CmpOp.In) = op') && decide (Str.ofString x = y) && glB sc y && constB T x (.tup vs) && meE T N sc e a
    | _ => false
  | .chn o1 o2 a b c, q0 => match q0 with
    | .Compare qa [p1, p2] [qb, qc] _ => decide (o1 = p1) && (decide (o2 = p2) && (!lastMarks [p1, p2] [qb, qc] && (meE T N sc a qa && (meE T N sc b qb && meE T N sc c qc))))
    | _ => false
  | .item es, q0 => match q0 with
    | .Subscript a i _ => notSlice i && meEs T N sc es [a, i]
    | _ => false
  | .slc _ a lo hi, q0 => match q0 with
    | .Subscript q (.Slice l h none _) _ => meE T N sc a q && meO T N sc lo l && meO T N sc hi h
    | _ => false
  | .rev _ a, q0 => match q0 with
    | .Subscript q (.Slice none none (some (.UnaryOp .USub (.Constant (.int 1) _ _) _)) _) _ => meE T N sc a q
    | _ => false
  | .call f args ix _, q0 => match q0 with
    | .Call (.Name x _) qs kws _ => (match T[f]? with
      | some g => decide (Str.ofString g.name = x) && glB sc x && kwPlain kws && decide (ix = ixOf (g.ns.map Str.ofString) qs.length kws) && meEs T N sc args (qs ++ kws.map fun k => k.value)
      | none => false)
    | _ => false
  | .prim p _ args, q0 => match q0 with
    | .Call (.Name x _) qs [] _ => decide (Str.ofString p.nm = x) && glB sc x && decide (0 < qs.length) && meEs T N sc args qs
    | _ => false
  | .itr p args, q0 => match q0 with
    | .Call (.Name x _) qs [] _ => decide (Str.ofString p.nm = x) && glB sc x && itAr p qs.length && meEs T N sc args qs
    | _ => false
  | .lrg t args, q0 => match q0 with
    | .Call (.Name y _) [.Call (.Name x _) qs [] _] [] _ => decide ((if t = true then "tuple" else "list") = y) && glB sc y && decide ("range" = x) && glB sc x && decide (0 < qs.length) && meEs T N sc args qs
    | _ => false
  | .meth m args, q0 => match q0 with
    | .Call (.Attribute o a apos) qs [] cpos => decide (Str.ofString m.nm = a) && apos.endLine == cpos.line && plainBase o && decide (qs.length < 20) && meEs T N sc args (o :: qs)
    | _ => false
  | .mut m p ks args, q0 => match q0 with
    | .Call (.Attribute o a apos) qs [] cpos => decide (Str.ofString m.nm = a) && apos.endLine == cpos.line && plainBase o && decide (qs.length < 20) && (match unpath ks.length o with
      | some (.Name x _, ls) => nmB N sc (p.y.getD p.x) x && ls.all notSlice && meEs T N sc ks ls
      | _ => false) && meEs T N sc args qs
    | _ => false
  | .lc _ elt t it cs, q0 => match q0 with
    | .ListComp e [⟨tg, i, ifs, 0⟩] scope _ => let sc' := relS scope sc
        blkC N sc scope (ownOf N t.slots) && decide ((ownOf N t.slots).map (·.2) = t.slots) && decide (ifs.length ≤ 1) && plainX i && itTg it tg && meE T N sc it i && meT N scope t tg && meEs T N sc' cs ifs && meE T N sc' elt e
    | _ => false
  | .lc2 _ _ _ _ _ _ _, _ => false
  | .dc _ _ _ _ _ _, _ => false
  | .isi e ts, q0 => match q0 with
    | .Call (.Name x _) [a, c] [] _ => decide (x = "isinstance") && glB sc x && plainX a && meE T N sc e a && meTy sc ts c
    | _ => false
  | .fld _ _ _, _ => false
  | .dct _ _ es, q0 => match q0 with
    | .Dict ks vs _ => (match weave ks vs with
      | some qs => decide (ks.length ≤ 15) && meEs T N sc es qs
      | none => false)
    | _ => false
def meEs (T : List FnA) (N : List Str) (sc : Scope) : List E → List Expr → Bool
  | [], [] => true
  | e :: es, q :: qs => plainX q && meE T N sc e q && meEs T N sc es qs
  | _, _ => false
def meO (T : List FnA) (N : List Str) (sc : Scope) : Option E → Option Expr → Bool
  | none, none => true
  | some e, some q => meE T N sc e q
  | _, _ => false
end
end OI
set_option maxRecDepth 100000
set_option maxHeartbeats 2000000
/-! OI4: expressions keep what the interpreter says. -/
namespace OI
open PySem PySem.Spec PyProof.Rows L2
mutual
def toD : PV → PyData
  | .non => .none
  | .bl b => .bool b
  | .int i => .int i
  | .str x => .str x
  | .tup xs => .tuple (toDs xs)
  | .lst xs => .list (toDs xs)
  | _ => .none
def toDs : List PV → List PyData
  | [] => []
  | x :: xs => toD x :: toDs xs
end
/-- how an exception lies -/
abbrev ERel := PV → Value → Option Addr → Hp → Prop
section
variable {K : PySem.W.Frag}
/-- how deep the parameter j is its def's own -/
def FnA.pd (d : FnA) (j : Nat) : Nat := if d.io = some j then d.dio else 0
/-- what a def promises: args at vs -/
def SpecOf (K : PySem.W.Frag) (ER : ERel) (run : List PV → Res (PV × Option PV)) (d : FnA) : Sp := fun vs H Q E => ∃ (pvs : List PV) (Z : Addr → Prop) (F : List Addr),
  vs.length = d.np ∧ pvs.length = d.np ∧ (∀ (j : Nat) (v : PV) (w : V), pvs[j]? = some v → vs[j]? = some w → Rep K H Z (d.pd j) v w (if d.io = some j then F else [])) ∧ (∀ a ∈ F, ¬ Z a) ∧ (d.io = none → F = []) ∧ (∀ a, Z a → H a ≠ none) ∧
  match run pvs with
  | .ok (v, o) => ∀ (w : V) (H' : Hp) (F' O : List Addr), Kp (fun a => a ∈ F) H H' → (∀ a, H a ≠ none → H' a ≠ none) → RepT K H' (fun _ => False) (retT d.dr) v w F' → (∀ a ∈ F', a ∈ F ∨ H a = none) →
      (∀ j u wj, d.io = some j → o = some u → vs[j]? = some wj → Rep K H' (fun _ => False) d.dio u wj O ∧ (∀ a ∈ O, a ∈ F ∨ H a = none) ∧ ∀ a ∈ O, a ∉ F') → Q w H'
  | .exc x => ∀ cls e H', ER x cls e H' → Kp (fun a => a ∈ F) H H' → (∀ a, H a ≠ none → H' a ≠ none) → E cls e H'
  | .stuck => False
/-- the values by parameters -/
def byIx (np : Nat) (ix : List Nat) (vs : List V) : List V := (List.range np).map fun j => ((ix.zip vs).lookup j).getD .non
/-- what is known of the defs -/
structure Fns (X : Cx) (T : List FnA) (G : Ctx) (ER : ERel) (k : Nat) : Prop where
  sig : ∀ f g, T[f]? = some g → G.sig f = some ⟨g.np, g.dfl⟩
  fn : ∀ (f : Nat) (g : FnA), T[f]? = some g → ∃ (a : Addr) (fd : FuncData) (ps : List Str), X.mg (Str.ofString g.name) = some (.ref a) ∧ PySem.W.keepIn X.K (.ref a) = true ∧
    FnOk X.prog X.w X.K X.mg X.base (L2.CX X.prog X.w) k a fd ps (SpecOf X.K ER (G.run f) g) ∧
    ∀ (n : Nat) (kws : List Keyword), kwPlain kws = true → (ixOf (g.ns.map Str.ofString) n kws).length = g.np → (ixOf (g.ns.map Str.ofString) n kws).Nodup → (∀ j ∈ ixOf (g.ns.map Str.ofString) n kws, j < g.np) →
      ∃ gg, KBn X.K fd ps n (kws.filterMap (·.arg)) gg (fun vs zs => byIx g.np (ixOf (g.ns.map Str.ofString) n kws) (vs ++ zs))
end
structure Good (X : Cx) (T : List FnA) (G : Ctx) (ER : ERel) (W : WX) (k : Nat) : Prop where
  calm : X.calm = true
  room : Room k X.A
  nd : X.N.Nodup
  tk : Takes X W
  kind : X.env.scope.kind = .function
  free : ∀ p : Prim, X.mg (Str.ofString p.nm) = none
  isin : X.mg "isinstance" = none
  tys : ∀ t : Ty, X.mg (Str.ofString t.nm) = none
  fns : Fns X T G ER k
  gls : ∀ (x : String) (v : PV), constB T x v = true → ∃ u w, X.mg (Str.ofString x) = some u ∧ RelV w u ∧ ∀ H, Dp X.K H w (toD v)
/-- what is wished of the exception x -/
def XW (ER : ERel) (W : WX) (σ : St) (M : List Nat) (S : ASt) (x : PV) : Prop := ∀ cls d H', ER x cls d H' → Kp (Wr M S) S.H H' → (∀ a, S.H a ≠ none → H' a ≠ none) → W cls d σ H'
structure Got (K : PySem.W.Frag) (σ : St) (M : List Nat) (S : ASt) (env' : Env) (Γ' : List Gt) (r : TR) (v : PV) (S' : ASt) (w : V) (F : List Addr) : Prop where
  env : S'.env = env'
  g : S'.G = Γ'
  stp : Stp M S S'
  ok : Ok K σ S'
  tmp : Tmp K S' r.1 r.2 v w F
  new : r.2 = none → ∀ a ∈ F, S.H a = none ∨ Wr M S a
def SndE (T : List FnA) (e' : E) : Prop := ∀ (X : Cx) (G : Ctx) (ER : ERel) (W : WX) (k : Nat), Good X T G ER W k → ∀ e : Expr, meE T X.N X.env.scope e' e = true →
  ∀ (σ : St) (S : ASt) (r : TR) (Γ' : List Gt), typE T e' S.G = some (r, Γ') → Ok X.K σ S →
    match evalE G e' S.env with
    | .ok q => ∀ Q : VK, (∀ S' w F, Got X.K σ (tchE e') S q.2 Γ' r q.1 S' w F → Q w S'.H) → WE X e σ S.H Q
    | .exc x => ∀ Q : VK, XW ER W σ (tchE e') S x → WE X e σ S.H Q
    | .stuck => True
/-- values in hand, one beside the other -/
inductive Tmps (K : PySem.W.Frag) (S : ASt) : List TR → List PV → List V → List (List Addr) → Prop
  | nil : Tmps K S [] [] [] []
  | cons {r : TR} {rs : List TR} {v : PV} {vs : List PV} {w : V} {ws : List V} {F : List Addr} {Fl : List (List Addr)} :
      Tmp K S r.1 r.2 v w F → Tmps K S rs vs ws Fl → (r.2 = none → ∀ G ∈ Fl, ∀ a ∈ F, a ∉ G) → Tmps K S (r :: rs) (v :: vs) (w :: ws) (F :: Fl)
structure Gots (K : PySem.W.Frag) (σ : St) (M : List Nat) (S : ASt) (env' : Env) (Γ' : List Gt) (rs : List TR) (vs : List PV) (S' : ASt) (ws : List V) (Fl : List (List Addr)) : Prop where
  env : S'.env = env'
  g : S'.G = Γ'
  stp : Stp M S S'
  ok : Ok K σ S'
  tmps : Tmps K S' rs vs ws Fl
  new : ∀ (j : Nat) (r : TR) (F : List Addr), rs[j]? = some r → Fl[j]? = some F → r.2 = none → ∀ a ∈ F, S.H a = none ∨ Wr M S a
/-- a name's value in hand is what stands in its slot -/
def VarsAt (σ : St) (es' : List E) (ws : List V) : Prop := ∀ (i x : Nat), es'[i]? = some (E.var x) → ∃ w : V, ws[i]? = some w ∧ σ[x]? = some (some w)
def SndEs (T : List FnA) (es' : List E) : Prop := ∀ (X : Cx) (G : Ctx) (ER : ERel) (W : WX) (k : Nat), Good X T G ER W k → ∀ es : List Expr, meEs T X.N X.env.scope es' es = true →
  ∀ (σ : St) (S : ASt) (rs : List TR) (Γ' : List Gt), typEs T es' S.G = some (rs, Γ') → Ok X.K σ S →
    match evalEs G es' S.env with
    | .ok q => ∀ Q : List V → Hp → Prop, (∀ S' ws Fl, Gots X.K σ (tchEs es') S q.2 Γ' rs q.1 S' ws Fl → VarsAt σ es' ws → Q ws S'.H) → WL X es σ S.H Q
    | .exc x => ∀ Q : List V → Hp → Prop, XW ER W σ (tchEs es') S x → WL X es σ S.H Q
    | .stuck => True
theorem Kp.trans {M : List Nat} {S S' : ASt} {H' : Hp} (h : Stp M S S') (k : Kp (Wr M S') S'.H H') : Kp (Wr M S) S.H H' := fun a o e p => by
  refine k a o (h.keep a o e p) (p.imp id fun n ⟨i, m, q⟩ => ?_)
  rcases h.fnew i a q with q | q | q
  · exact n ⟨i, m, q⟩
  · rw [e] at q; cases q
  · exact n q
theorem XW.step {ER : ERel} {W : WX} {σ : St} {M M' : List Nat} {S S' : ASt} {x : PV} (h : Stp M S S') (hs : ∀ i ∈ M', i ∈ M) (w : XW ER W σ M S x) : XW ER W σ M' S' x := fun cls d H' er kp lv =>
  w cls d H' er (Kp.trans h fun a o e p => kp a o e (p.imp id fun n ⟨i, m, q⟩ => n ⟨i, hs i m, q⟩)) fun a z => lv a (h.live a z)
theorem XW.mono {ER : ERel} {W : WX} {σ : St} {M M' : List Nat} {S : ASt} {x : PV} (hs : ∀ i ∈ M', i ∈ M) (w : XW ER W σ M S x) : XW ER W σ M' S x := XW.step Stp.refl hs w
section
variable {T : List FnA} {X : Cx} {K : PySem.W.Frag} {σ : St} {S S' : ASt} {M : List Nat}
theorem Ok.fresh (o : Ok K σ S) {p : Addr} (hp : S.H p = none) : (∀ i, p ∉ S.Fs i) ∧ ¬ S.Z p := by
  refine ⟨fun i hi => ?_, fun z => o.ztr p z hp⟩
  obtain ⟨u, e, _⟩ := o.trk i p hi
  rw [hp] at e; cases e
/-- nothing has changed, the value is at hand -/
theorem Got.here (o : Ok K σ S) {r : TR} {v : PV} {w : V} (t : RepT K S.H S.Z r.1 v w []) : Got K σ M S S.env S.G r v S w [] :=
  ⟨rfl, rfl, .refl, o, ⟨t, fun _ _ _ h => (nomatch h), fun _ _ _ h => (nomatch h), fun _ h => (nomatch h)⟩, fun _ _ h => (nomatch h)⟩
theorem snd_int {n : Int} : SndE T (.int n) := by
  intro X G ER W k g e he σ S r Γ' ht o
  simp only [typE, Option.some.injEq, Prod.mk.injEq] at ht
  obtain ⟨rfl, rfl⟩ := ht
  rw [evalE]
  intro Q hQ
  cases e <;> simp only [meE, Bool.false_eq_true] at he
  rename_i c j pos
  cases c <;> simp only [meE, Bool.false_eq_true, decide_eq_true_eq] at he
  subst he
  exact .of pe_int (hQ S _ [] (Got.here o ⟨rfl, ⟨1, rfl⟩, .int n⟩))
theorem snd_str {z : String} : SndE T (.str z) := by
  intro X G ER W k g e he σ S r Γ' ht o
  simp only [typE, Option.some.injEq, Prod.mk.injEq] at ht
  obtain ⟨rfl, rfl⟩ := ht
  rw [evalE]
  intro Q hQ
  cases e <;> simp only [meE, Bool.false_eq_true] at he
  rename_i c j pos
  cases c <;> simp only [meE, Bool.false_eq_true, decide_eq_true_eq] at he
  subst he
  exact .of pe_str (hQ S _ [] (Got.here o ⟨rfl, ⟨1, rfl⟩, .str _⟩))
theorem snd_bl {b : Bool} : SndE T (.bl b) := by
  intro X G ER W k g e he σ S r Γ' ht o
  simp only [typE, Option.some.injEq, Prod.mk.injEq] at ht
  obtain ⟨rfl, rfl⟩ := ht
  rw [evalE]
  intro Q hQ
  cases e <;> simp only [meE, Bool.false_eq_true] at he
  rename_i c j pos
  cases c <;> simp only [meE, Bool.false_eq_true, beq_iff_eq] at he
  subst he
  exact .of pe_bl (hQ S _ [] (Got.here o ⟨rfl, ⟨1, rfl⟩, .bl _⟩))
theorem snd_non : SndE T .non := by
  intro X G ER W k g e he σ S r Γ' ht o
  simp only [typE, Option.some.injEq, Prod.mk.injEq] at ht
  obtain ⟨rfl, rfl⟩ := ht
  rw [evalE]
  intro Q hQ
  cases e <;> simp only [meE, Bool.false_eq_true] at he
  rename_i c j pos
  cases c <;> simp only [meE, Bool.false_eq_true] at he
  exact .of pe_non (hQ S _ [] (Got.here o ⟨rfl, ⟨1, rfl⟩, .non⟩))
end
end OI
set_option maxRecDepth 100000
set_option maxHeartbeats 2000000
/-! OI5: names, displays, operators. -/
namespace OI
open PySem PySem.Spec PyProof.Rows L2
section
variable {T : List FnA} {X : Cx} {K : PySem.W.Frag} {σ : St} {S S' : ASt} {M : List Nat}
/-! ### types of values in hand -/
theorem RepT.cl0 {H : Hp} {Z : Addr → Prop} {v : PV} {w : V} {F : List Addr} (h : RepT K H Z .cl v w F) : F = [] ∧ ∀ Z' d, Rep K H Z' d v w [] := by
  obtain ⟨e, ⟨n, c⟩, r⟩ := h
  exact ⟨e, (rep_clean n c r).2⟩
/-- .. as one that may be kept m levels deep, or frozen -/
theorem Tmp.use {τ : Tp} {src : Option Nat} {v : PV} {w : V} {F : List Addr} {m : Nat} (t : Tmp K S τ src v w F) (h : useAt m (τ, src) = true) (hm : m ≠ 0) : Rep K S.H S.Z m v w F := by
  cases τ with
  | cl => obtain ⟨e, q⟩ := t.rep.cl0; subst e; exact q _ _
  | d n =>
    simp only [useAt, Bool.and_eq_true, Bool.or_eq_true, beq_iff_eq] at h
    rcases h.2 with e | e
    · subst e; exact t.rep
    · exact absurd e hm
theorem useAt_src {τ : Tp} {src : Option Nat} {m : Nat} (h : useAt m (τ, src) = true) : τ = .cl ∨ src = none := by
  cases τ with
  | cl => exact .inl rfl
  | d n =>
    simp only [useAt, Bool.and_eq_true] at h
    exact .inr (by simpa using h.1)
/-- a value whose parts are frozen -/
inductive Shal (K : PySem.W.Frag) (H : Hp) (Z : Addr → Prop) : PV → V → Prop
  | at_ {v : PV} {w : V} : (∀ Z' d, Rep K H Z' d v w []) → (∀ xs, v ≠ .tup xs) → (∀ xs, v ≠ .lst xs) → (∀ t ks vs, v ≠ .dct t ks vs) → Shal K H Z v w
  | tup {xs : List PV} {a : Addr} {ws : List V} : H a = some (.tup ws) → Reps K H Z 0 xs ws [] → Shal K H Z (.tup xs) (.ref a)
  | lst {xs : List PV} {a : Addr} {ws : List V} : Rd H a (.lst ws) → Reps K H Z 0 xs ws [] → Shal K H Z (.lst xs) (.ref a)
  | dct {t : Bool} {ks vs : List PV} {a : Addr} {u : HO} {ws : List V} : H a = some u → Dct t u ks ws → Reps K H Z 0 vs ws [] → Shal K H Z (.dct t ks vs) (.ref a)
theorem Rep.shal0 {H : Hp} {Z : Addr → Prop} {v : PV} {w : V} {F : List Addr} (h : Rep K H Z 0 v w F) : Shal K H Z v w := by
  cases h with
  | non => exact .at_ (fun _ _ => .non) (fun _ e => nomatch e) (fun _ e => nomatch e) (fun _ _ _ e => nomatch e)
  | bl b => exact .at_ (fun _ _ => .bl b) (fun _ e => nomatch e) (fun _ e => nomatch e) (fun _ _ _ e => nomatch e)
  | int i => exact .at_ (fun _ _ => .int i) (fun _ e => nomatch e) (fun _ e => nomatch e) (fun _ _ _ e => nomatch e)
  | str x => exact .at_ (fun _ _ => .str x) (fun _ e => nomatch e) (fun _ e => nomatch e) (fun _ _ _ e => nomatch e)
  | tup0 h1 h2 => have e := Reps.zeroF h2; subst e; exact .tup h1 h2
  | lst0 h1 h2 => have e := Reps.zeroF h2; subst e; exact .lst h1.1 h2
  | dct0 h1 h2 h3 h4 => have e := Reps.zeroF h4; subst e; exact .dct h1 h3 h4
theorem Rep.shal1 {H : Hp} {Z : Addr → Prop} {v : PV} {w : V} {F : List Addr} (h : Rep K H Z 1 v w F) : Shal K H Z v w := by
  cases h with
  | non => exact .at_ (fun _ _ => .non) (fun _ e => nomatch e) (fun _ e => nomatch e) (fun _ _ _ e => nomatch e)
  | bl b => exact .at_ (fun _ _ => .bl b) (fun _ e => nomatch e) (fun _ e => nomatch e) (fun _ _ _ e => nomatch e)
  | int i => exact .at_ (fun _ _ => .int i) (fun _ e => nomatch e) (fun _ e => nomatch e) (fun _ _ _ e => nomatch e)
  | str x => exact .at_ (fun _ _ => .str x) (fun _ e => nomatch e) (fun _ e => nomatch e) (fun _ _ _ e => nomatch e)
  | tupS h1 h2 => have e := Reps.zeroF h2; subst e; exact .tup h1 h2
  | lstS h1 h2 h3 => have e := Reps.zeroF h2; subst e; exact .lst (.of h1) h2
  | dctS h1 h2 h3 h4 => have e := Reps.zeroF h3; subst e; exact .dct h1 h2 h3
theorem Tmp.shal {τ : Tp} {src : Option Nat} {v : PV} {w : V} {F : List Addr} (t : Tmp K S τ src v w F) (h : OI.shal (τ, src) = true) : Shal K S.H S.Z v w := by
  cases τ with
  | cl => obtain ⟨e, q⟩ := t.rep.cl0; exact (q S.Z 0).shal0
  | d n =>
    have h : n ≤ 1 := by simpa [OI.shal] using h
    have r : Rep K S.H S.Z n v w F := t.rep
    match n, h, r with
    | 0, _, r => exact r.shal0
    | 1, _, r => exact r.shal1
/-! ### what an operation makes of such -/
/-- H': the heap behind it -/
inductive Made (K : PySem.W.Frag) (H : Hp) (Z : Addr → Prop) : PV → V → Hp → Prop
  | old {v : PV} {w : V} : Rep K H Z 0 v w [] → Rep K H Z 1 v w [] → Made K H Z v w H
  | tup {xs : List PV} {ws : List V} {p : Addr} : H p = none → Reps K H Z 0 xs ws [] → Made K H Z (.tup xs) (.ref p) (upd H p (.tup ws))
  | lst {xs : List PV} {ws : List V} {p : Addr} : H p = none → Reps K H Z 0 xs ws [] → Made K H Z (.lst xs) (.ref p) (upd H p (.lst ws))
  | dct {t : Bool} {ks vs : List PV} {ws : List V} {u : HO} {p : Addr} : H p = none → Dct t u ks ws → Reps K H Z 0 vs ws [] → Made K H Z (.dct t ks vs) (.ref p) (upd H p u)
theorem Reps.newH {H : Hp} {Z : Addr → Prop} {d : Nat} {xs : List PV} {ws : List V} {F : List Addr} {p : Addr} {u : HO} (hp : H p = none) (h : Reps K H Z d xs ws F) : Reps K (upd H p u) Z d xs ws F :=
  Reps.keep (W := fun _ => False) (kp_new hp) (fun _ _ z => z) (fun _ _ z => z) (fun _ z => z) h
theorem Stp.frzB {F : List Addr} (h : Stp M S S') (hF : ∀ a ∈ F, S.H a = none ∨ Wr M S a) : Stp M S (S'.frz F) :=
  ⟨h.env, h.fs, h.keep, fun a z => .inl (h.z a z), fun a z => z.elim (h.znew a) fun m => .inr (hF a m), h.fnew, h.live⟩
/-- what is in hand frozen -/
theorem Got.freeze {env' : Env} {Γ' : List Gt} {n : Nat} {v : PV} {w : V} {F : List Addr} (g : Got K σ M S env' Γ' (.d n, none) v S' w F) : Got K σ M S env' Γ' (.d 0, none) v (S'.frz F) w [] where
  env := g.env
  g := g.g
  stp := g.stp.frzB (g.new rfl)
  ok := g.ok.frz (fun a ha e => by obtain ⟨o, q, _⟩ := g.tmp.rep.trk a ha; rw [e] at q; cases q) fun i a ha => g.tmp.own rfl i a ha
  tmp := ⟨Rep.freeze (fun _ z => .inl z) (fun a ha => .inr ha) g.tmp.rep, fun _ _ _ h => (nomatch h), fun _ _ _ h => (nomatch h), fun _ h => (nomatch h)⟩
  new := fun _ _ h => (nomatch h)
theorem Got.own1 {v : PV} {w : V} {p : Addr} {u : HO} (o : Ok K σ S) (hp : S.H p = none) (r : Rep K (upd S.H p u) S.Z 1 v w [p]) : Got K σ M S S.env S.G (.d 1, none) v (S.atH (upd S.H p u)) w [p] := by
  obtain ⟨f1, f2⟩ := o.fresh hp
  exact ⟨rfl, rfl, .alloc hp, o.alloc hp, ⟨r, fun _ i a ha => by simp at ha; subst ha; exact f1 i, fun _ h => (nomatch h), fun a ha => by simp at ha; subst ha; exact f2⟩, fun _ a ha => by simp at ha; subst ha; exact .inl hp⟩
theorem Got.made {τ : Tp} {v : PV} {w : V} {H' : Hp} (o : Ok K σ S) (m : Made K S.H S.Z v w H') (ht : (τ = .cl ∧ ∃ n, clean n v = true) ∨ τ = .d 0 ∨ τ = .d 1) :
    ∃ S' F, S'.H = H' ∧ Got K σ M S S.env S.G (τ, none) v S' w F := by
  cases m with
  | old r0 r1 =>
    refine ⟨S, [], rfl, Got.here o ?_⟩
    rcases ht with ⟨rfl, c⟩ | rfl | rfl
    · exact ⟨rfl, c, r0⟩
    · exact r0
    · exact r1
  | @tup xs ws p hp r =>
    have r' := r.newH (u := .tup ws) hp
    have hs : upd S.H p (.tup ws) p = some (.tup ws) := upd_same
    refine ⟨S.atH (upd S.H p (.tup ws)), [], rfl, rfl, rfl, .alloc hp, o.alloc hp, ⟨?_, fun _ _ _ h => (nomatch h), fun _ _ _ h => (nomatch h), fun _ h => (nomatch h)⟩, fun _ _ h => (nomatch h)⟩
    rcases ht with ⟨rfl, c⟩ | rfl | rfl
    · exact ⟨rfl, c, .tup0 hs r'⟩
    · exact .tup0 hs r'
    · exact .tupS hs r'
  | @lst xs ws p hp r =>
    have g1 : Got K σ M S S.env S.G (.d 1, none) (.lst xs) (S.atH (upd S.H p (.lst ws))) (.ref p) [p] := Got.own1 o hp (.lstS upd_same (r.newH hp) (by simp))
    rcases ht with ⟨rfl, n, c⟩ | rfl | rfl
    · cases n <;> simp [clean] at c
    · exact ⟨_, _, rfl, g1.freeze⟩
    · exact ⟨_, _, rfl, g1⟩
  | @dct t ks vs ws u p hp hd r =>
    have g1 : Got K σ M S S.env S.G (.d 1, none) (.dct t ks vs) (S.atH (upd S.H p u)) (.ref p) [p] := Got.own1 o hp (.dctS upd_same hd (r.newH hp) (by simp))
    rcases ht with ⟨rfl, n, c⟩ | rfl | rfl
    · cases n <;> simp [clean] at c
    · exact ⟨_, _, rfl, g1.freeze⟩
    · exact ⟨_, _, rfl, g1⟩
/-- behind other steps -/
theorem Got.after {S1 : ASt} {env' : Env} {Γ' : List Gt} {M1 M2 : List Nat} {r : TR} {v : PV} {w : V} {F : List Addr} (h : Stp M1 S S1) (g : Got K σ M2 S1 env' Γ' r v S' w F) (h1 : ∀ i ∈ M1, i ∈ M) (h2 : ∀ i ∈ M2, i ∈ M) :
    Got K σ M S env' Γ' r v S' w F := by
  have hm := h.mono h1
  refine ⟨g.env, g.g, hm.trans (g.stp.mono h2), g.ok, g.tmp, fun e a ha => ?_⟩
  rcases g.new e a ha with z | ⟨i, m, z⟩
  · refine .inl ?_
    cases q : S.H a with
    | none => rfl
    | some u => exact absurd z (h.live a (by simp [q]))
  · rcases hm.fnew i a z with z | z | z
    · exact .inr ⟨i, h2 i m, z⟩
    · exact .inl z
    · exact .inr z
end
end OI
set_option maxRecDepth 100000
set_option maxHeartbeats 2000000
/-! OI6: names, argument lists. -/
namespace OI
open PySem PySem.Spec PyProof.Rows L2
section
variable {T : List FnA} {X : Cx} {K : PySem.W.Frag} {σ : St} {S S' : ASt} {M : List Nat}
theorem getV_ok : ∀ {env : Env} {i : Nat} {v : PV}, getV env i = .ok v ↔ env[i]? = some (some v)
  | [], _, _ => by simp [getV]
  | none :: _, 0, _ => by simp [getV]
  | some u :: _, 0, v => by simp [getV]
  | _ :: r, n + 1, v => by
    have := getV_ok (env := r) (i := n) (v := v)
    simpa [getV] using this
theorem getV_exc : ∀ {env : Env} {i : Nat} {x : PV}, getV env i ≠ .exc x
  | [], _, _ => by simp [getV]
  | none :: _, 0, _ => by simp [getV]
  | some u :: _, 0, v => by simp [getV]
  | _ :: r, n + 1, v => by simpa [getV] using getV_exc (env := r) (i := n) (x := v)
theorem Res.bind_ok {α β : Type} {r : Res α} {f : α → Res β} {b : β} : r.bind f = .ok b ↔ ∃ a, r = .ok a ∧ f a = .ok b := by
  cases r <;> simp [Res.bind]
theorem Res.bind_exc {α β : Type} {r : Res α} {f : α → Res β} {x : PV} : r.bind f = .exc x ↔ r = .exc x ∨ ∃ a, r = .ok a ∧ f a = .exc x := by
  cases r <;> simp [Res.bind]
theorem need_ok {α : Type} {c : Prop} [Decidable c] {r : Res α} {a : α} : need c r = .ok a ↔ c ∧ r = .ok a := by
  unfold need; split <;> simp [*]
theorem need_exc {α : Type} {c : Prop} [Decidable c] {r : Res α} {a : PV} : need c r = .exc a ↔ c ∧ r = .exc a := by
  unfold need; split <;> simp [*]
/-- the two halves of what is kept -/
structure SndO (T : List FnA) (X : Cx) (G : Ctx) (ER : ERel) (W : WX) (e' : E) (e : Expr) (σ : St) (S : ASt) (r : TR) (Γ' : List Gt) : Prop where
  ok : ∀ v env', evalE G e' S.env = .ok (v, env') → ∀ Q : VK, (∀ S' w F, Got X.K σ (tchE e') S env' Γ' r v S' w F → Q w S'.H) → WE X e σ S.H Q
  exc : ∀ x, evalE G e' S.env = .exc x → ∀ Q : VK, XW ER W σ (tchE e') S x → WE X e σ S.H Q
theorem snd_iff {e' : E} : SndE T e' ↔ ∀ (X : Cx) (G : Ctx) (ER : ERel) (W : WX) (k : Nat), Good X T G ER W k → ∀ e : Expr, meE T X.N X.env.scope e' e = true →
    ∀ (σ : St) (S : ASt) (r : TR) (Γ' : List Gt), typE T e' S.G = some (r, Γ') → Ok X.K σ S → SndO T X G ER W e' e σ S r Γ' := by
  constructor
  · intro h X G ER W k g e he σ S r Γ' ht o
    have q := h X G ER W k g e he σ S r Γ' ht o
    refine ⟨fun v env' e1 => ?_, fun x e1 => ?_⟩
    · rw [e1] at q; exact q
    · rw [e1] at q; exact q
  · intro h X G ER W k g e he σ S r Γ' ht o
    have q := h X G ER W k g e he σ S r Γ' ht o
    cases e1 : evalE G e' S.env with
    | ok p => exact q.ok p.1 p.2 e1
    | exc x => exact q.exc x e1
    | stuck => trivial
structure SndOs (T : List FnA) (X : Cx) (G : Ctx) (ER : ERel) (W : WX) (es' : List E) (es : List Expr) (σ : St) (S : ASt) (rs : List TR) (Γ' : List Gt) : Prop where
  okV : ∀ vs env', evalEs G es' S.env = .ok (vs, env') → ∀ Q : List V → Hp → Prop, (∀ S' ws Fl, Gots X.K σ (tchEs es') S env' Γ' rs vs S' ws Fl → VarsAt σ es' ws → Q ws S'.H) → WL X es σ S.H Q
  exc : ∀ x, evalEs G es' S.env = .exc x → ∀ Q : List V → Hp → Prop, XW ER W σ (tchEs es') S x → WL X es σ S.H Q
theorem SndOs.ok {T : List FnA} {X : Cx} {G : Ctx} {ER : ERel} {W : WX} {es' : List E} {es : List Expr} {σ : St} {S : ASt} {rs : List TR} {Γ' : List Gt} (s : SndOs T X G ER W es' es σ S rs Γ') (vs : List PV) (env' : Env) (ev : evalEs G es' S.env = .ok (vs, env')) (Q : List V → Hp → Prop)
    (h : ∀ S' ws Fl, Gots X.K σ (tchEs es') S env' Γ' rs vs S' ws Fl → Q ws S'.H) : WL X es σ S.H Q := s.okV vs env' ev Q fun S' ws Fl g _ => h S' ws Fl g
theorem snds_iff {es' : List E} : SndEs T es' ↔ ∀ (X : Cx) (G : Ctx) (ER : ERel) (W : WX) (k : Nat), Good X T G ER W k → ∀ es : List Expr, meEs T X.N X.env.scope es' es = true →
    ∀ (σ : St) (S : ASt) (rs : List TR) (Γ' : List Gt), typEs T es' S.G = some (rs, Γ') → Ok X.K σ S → SndOs T X G ER W es' es σ S rs Γ' := by
  constructor
  · intro h X G ER W k g e he σ S r Γ' ht o
    have q := h X G ER W k g e he σ S r Γ' ht o
    refine ⟨fun v env' e1 => ?_, fun x e1 => ?_⟩
    · rw [e1] at q; exact q
    · rw [e1] at q; exact q
  · intro h X G ER W k g e he σ S r Γ' ht o
    have q := h X G ER W k g e he σ S r Γ' ht o
    cases e1 : evalEs G es' S.env with
    | ok p => exact q.okV p.1 p.2 e1
    | exc x => exact q.exc x e1
    | stuck => trivial
theorem nmB_ok {N : List Str} {sc : Scope} {i : Nat} {x : Str} (h : nmB N sc i x = true) : N[i]? = some x ∧ Vis sc x ∧ (x == ("__debug__" : Str)) = false ∧ (x == ("__classdict__" : Str)) = false := by
  simp only [nmB, plainName, Bool.and_eq_true, decide_eq_true_eq, Bool.not_eq_true'] at h
  refine ⟨h.1.1, ?_, h.2.1, h.2.2⟩
  have q := h.1.2
  unfold visB at q
  split at q <;> first | cases q | skip
  · exact .inl (by assumption)
  · exact .inr (.inl (by assumption))
  · exact .inr (.inr (by assumption))
theorem we_var {i : Nat} {x : Str} {pos : Pos} {w : V} {H : Hp} {Q : VK} (h : nmB X.N X.env.scope i x = true) (e : σ[i]? = some (some w)) (q : Q w H) : WE X (.Name x pos) σ H Q := by
  obtain ⟨h1, h2, h3, h4⟩ := nmB_ok h
  exact .of (pe_var h1 h2 h3 h4) ⟨w, e, q⟩
theorem snd_var {i : Nat} : SndE T (.var i) := by
  refine snd_iff.mpr fun X G ER W k g e he σ S r Γ' ht o => ?_
  cases e <;> simp only [meE, Bool.false_eq_true] at he
  rename_i x pos
  refine ⟨fun v env' ev Q hQ => ?_, fun y ev => ?_⟩
  · simp only [evalE, Res.bind_ok] at ev
    obtain ⟨u, ev, e2⟩ := ev
    cases e2
    have ev' := getV_ok.mp ev
    simp only [typE] at ht
    split at ht
    · rename_i hg
      cases ht
      have hg' : S.G[i]? = some (.t .cl) := by
        unfold gat at hg
        cases q : S.G[i]? with
        | none => rw [q] at hg; cases hg
        | some z => rw [q] at hg; simp at hg; rw [hg]
      obtain ⟨w, e1, rp⟩ := o.slot i _ _ hg' ev'
      have e0 := rp.1
      rw [e0] at rp
      exact we_var he e1 (hQ S w [] (Got.here o rp))
    · rename_i n hg
      cases ht
      have hg' : S.G[i]? = some (.t (.d n)) := by
        unfold gat at hg
        cases q : S.G[i]? with
        | none => rw [q] at hg; cases hg
        | some z => rw [q] at hg; simp at hg; rw [hg]
      obtain ⟨w, e1, rp⟩ := o.slot i _ _ hg' ev'
      refine we_var he e1 (hQ S w (S.Fs i) ⟨rfl, rfl, .refl, o, ⟨rp, fun hn => ?_, fun y hy a ha => ?_, o.nz i⟩, fun hn => ?_⟩)
      · by_cases hz : n = 0
        · subst hz
          have z : S.Fs i = [] := Rep.zeroF rp
          intro j a ha; rw [z] at ha; cases ha
        · simp [hz] at hn
      · by_cases hz : n = 0
        · simp [hz] at hy
        · simp [hz] at hy; subst hy; exact ha
      · by_cases hz : n = 0
        · subst hz
          have z : S.Fs i = [] := Rep.zeroF rp
          intro a ha; rw [z] at ha; cases ha
        · simp [hz] at hn
    · cases ht
  · simp only [evalE, Res.bind_exc] at ev
    rcases ev with ev | ⟨a, _, ev⟩
    · exact absurd ev getV_exc
    · cases ev
theorem gat_some {Γ : List Gt} {i : Nat} {τ : Tp} (h : gat Γ i = .t τ) : Γ[i]? = some (.t τ) := by
  unfold gat at h
  cases q : Γ[i]? with
  | none => rw [q] at h; cases h
  | some z => rw [q] at h; simp at h; rw [h]
/-- a name that may be read is there -/
theorem var_there {i : Nat} {r : TR} {Γ' : List Gt} {v : PV} (o : Ok K σ S) (ht : typE T (.var i) S.G = some (r, Γ')) (ev : getV S.env i = .ok v) : ∃ w, σ[i]? = some (some w) := by
  have ev' := getV_ok.mp ev
  simp only [typE] at ht
  split at ht
  · rename_i hg
    obtain ⟨w, e1, _⟩ := o.slot i _ _ (gat_some hg) ev'
    exact ⟨w, e1⟩
  · rename_i n hg
    obtain ⟨w, e1, _⟩ := o.slot i _ _ (gat_some hg) ev'
    exact ⟨w, e1⟩
  · cases ht
theorem var_got {i : Nat} {r : TR} {Γ' : List Gt} {v : PV} (o : Ok K σ S) (ht : typE T (.var i) S.G = some (r, Γ')) (ev : getV S.env i = .ok v) :
    ∃ w F, σ[i]? = some (some w) ∧ Γ' = S.G ∧ Tmp K S r.1 r.2 v w F ∧ (r.2 = none → F = []) := by
  have ev' := getV_ok.mp ev
  simp only [typE] at ht
  split at ht
  · rename_i hg
    cases ht
    obtain ⟨w, e1, rp⟩ := o.slot i _ _ (gat_some hg) ev'
    have e0 := rp.1
    rw [e0] at rp
    exact ⟨w, [], e1, rfl, ⟨rp, fun _ _ _ h => (nomatch h), fun _ _ _ h => (nomatch h), fun _ h => (nomatch h)⟩, fun _ => rfl⟩
  · rename_i n hg
    cases ht
    obtain ⟨w, e1, rp⟩ := o.slot i _ _ (gat_some hg) ev'
    by_cases hz : n = 0
    · subst hz
      have z : S.Fs i = [] := Rep.zeroF rp
      rw [z] at rp
      exact ⟨w, [], e1, rfl, ⟨rp, fun _ _ _ h => (nomatch h), fun _ _ _ h => (nomatch h), fun _ h => (nomatch h)⟩, fun _ => rfl⟩
    · refine ⟨w, S.Fs i, e1, rfl, ⟨rp, fun hn => ?_, fun y hy a ha => ?_, o.nz i⟩, fun hn => ?_⟩
      · simp [hz] at hn
      · simp [hz] at hy; subst hy; exact ha
      · simp [hz] at hn
  · cases ht
theorem Tmps.all {rs : List TR} {vs : List PV} {ws : List V} {Fl : List (List Addr)} (h : Tmps K S rs vs ws Fl) : ∀ (j : Nat) (G : List Addr), Fl[j]? = some G → ∃ r v w, rs[j]? = some r ∧ vs[j]? = some v ∧ ws[j]? = some w ∧ Tmp K S r.1 r.2 v w G := by
  induction h with
  | nil => intro j G e; simp at e
  | cons t _ _ ih =>
    intro j G e
    cases j with
    | zero => simp at e; subst e; exact ⟨_, _, _, rfl, rfl, rfl, t⟩
    | succ j => simpa using ih j G (by simpa using e)
theorem star_plain {q : Expr} {qs : List Expr} {env : PySem.Env} (h : plainX q = true) : starEach (q :: qs) env = (false, eval q env) :: starEach qs env := by
  cases q <;> first | rfl | (simp [plainX] at h)
theorem pa_wl : ∀ {qs : List Expr}, qs.all plainX = true → PA X qs (WL X qs)
  | [], _ => pa_nil
  | q :: qs, h => by
    simp only [List.all_cons, Bool.and_eq_true] at h
    exact pa_cons pe_we (pa_wl h.2) (star_plain h.1)
theorem meEs_plain {N : List Str} {sc : Scope} : ∀ {es : List E} {qs : List Expr}, meEs T N sc es qs = true → qs.all plainX = true
  | [], [], _ => rfl
  | [], _ :: _, h => by simp [meEs] at h
  | _ :: _, [], h => by simp [meEs] at h
  | e :: es, q :: qs, h => by
    simp only [meEs, Bool.and_eq_true] at h
    simp only [List.all_cons, Bool.and_eq_true]
    exact ⟨h.1.1, meEs_plain h.2⟩
theorem late_var {e : E} (h : e.late = true) : ∃ i, e = .var i := by
  cases e <;> simp [E.late] at h
  exact ⟨_, rfl⟩
theorem snds_of {es' : List E} (hs : ∀ e ∈ es', SndE T e) : SndEs T es' := by
  induction es' with
  | nil =>
    refine snds_iff.mpr fun X G ER W k g es he σ S rs Γ' ht o => ?_
    cases es <;> simp only [meEs, Bool.false_eq_true] at he
    refine ⟨fun vs env' ev Q hQ => ?_, fun y ev => ?_⟩
    · simp only [evalEs, Res.ok.injEq, Prod.mk.injEq] at ev
      obtain ⟨rfl, rfl⟩ := ev
      simp only [typEs, Option.some.injEq, Prod.mk.injEq] at ht
      obtain ⟨rfl, rfl⟩ := ht
      exact (hQ S [] [] ⟨rfl, rfl, .refl, o, .nil, fun j r F h => by simp at h⟩ fun i x h => by simp at h)
    · simp [evalEs] at ev
  | cons e es' ih =>
    have ihs := snds_iff.mp (ih fun e he => hs e (List.mem_cons_of_mem _ he))
    have ihe := snd_iff.mp (hs e List.mem_cons_self)
    refine snds_iff.mpr fun X G ER W k g es he σ S rs Γ' ht o => ?_
    cases es with
    | nil => simp [meEs] at he
    | cons q qs =>
      simp only [meEs, Bool.and_eq_true] at he
      obtain ⟨⟨hp, he1⟩, he2⟩ := he
      cases hl : e.late with
      | false =>
        simp only [typEs, hl] at ht
        cases t1 : typE T e S.G with
        | none => simp [t1] at ht
        | some p1 =>
          obtain ⟨r1, Γ1⟩ := p1
          simp only [t1] at ht
          cases t2 : typEs T es' Γ1 with
          | none => simp [t2] at ht
          | some p2 =>
            obtain ⟨rs2, Γ2⟩ := p2
            simp only [t2] at ht
            split at ht
            · rename_i hsrc
              cases ht
              have s1 := ihe X G ER W k g q he1 σ S r1 Γ1 t1 o
              refine ⟨fun vs env' ev Q hQ => ?_, fun y ev Q hQ => ?_⟩
              · simp only [evalEs, hl, Res.bind_ok] at ev
                obtain ⟨⟨v, env1⟩, ev1, ⟨vs2, env2⟩, ev2, e3⟩ := ev
                cases e3
                refine (s1.ok v env1 ev1 _ fun S1 w F g1 => ?_)
                have s2 := ihs X G ER W k g qs he2 σ S1 rs2 _ (by rw [g1.g]; exact t2) g1.ok
                refine s2.okV vs2 env2 (by rw [g1.env]; exact ev2) _ fun S2 ws Fl g2 va => hQ S2 (w :: ws) (F :: Fl) ?_ (fun i x hi => by
                  cases i with
                  | zero => simp at hi; subst hi; simp [E.late] at hl
                  | succ i => simpa using va i x (by simpa using hi))
                have m1 := g1.stp.mono (M' := tchEs (e :: es')) fun i hi => by simp only [tchEs]; exact List.mem_append_left _ hi
                have m2 := g2.stp.mono (M' := tchEs (e :: es')) fun i hi => by simp only [tchEs]; exact List.mem_append_right _ hi
                have ts := g1.tmp.step g1.ok g2.stp fun x hx => by
                  rw [hx] at hsrc
                  simpa [srcFree] using hsrc
                refine ⟨g2.env, g2.g, m1.trans m2, g2.ok, .cons ts g2.tmps fun hn Gj hG a ha hb => ?_, fun j r F' hr hF hn a ha => ?_⟩
                · obtain ⟨j, hj⟩ := List.mem_iff_getElem?.mp hG
                  obtain ⟨r', v', w', hr', _, _, tj⟩ := g2.tmps.all j Gj hj
                  obtain ⟨ob, eo, _⟩ := g1.tmp.rep.trk a ha
                  cases hs' : r'.2 with
                  | none =>
                    rcases g2.new j r' Gj hr' hj hs' a hb with z | ⟨i, _, z⟩
                    · rw [eo] at z; cases z
                    · exact g1.tmp.own hn i a ha z
                  | some x =>
                    rcases g2.stp.fnew x a (tj.bor x hs' a hb) with z | z | ⟨i, _, z⟩
                    · exact g1.tmp.own hn x a ha z
                    · rw [eo] at z; cases z
                    · exact g1.tmp.own hn i a ha z
                · cases j with
                  | zero =>
                    simp at hr hF
                    subst hr hF
                    rcases g1.new hn a ha with z | ⟨i, hi, z⟩
                    · exact .inl z
                    · exact .inr ⟨i, by simp only [tchEs]; exact List.mem_append_left _ hi, z⟩
                  | succ j =>
                    rcases g2.new j r F' (by simpa using hr) (by simpa using hF) hn a ha with z | ⟨i, hi, z⟩
                    · refine .inl ?_
                      cases q0 : S.H a with
                      | none => rfl
                      | some u => exact absurd z (g1.stp.live a (by simp [q0]))
                    · rcases m1.fnew i a z with z | z | z
                      · exact .inr ⟨i, by simp only [tchEs]; exact List.mem_append_right _ hi, z⟩
                      · exact .inl z
                      · exact .inr z
              · simp only [evalEs, hl, Res.bind_exc] at ev
                rcases ev with ev | ⟨⟨v, env1⟩, ev1, ev | ⟨_, _, ev⟩⟩
                · exact (s1.exc y ev _ (hQ.mono fun i hi => by simp only [tchEs]; exact List.mem_append_left _ hi))
                · refine (s1.ok v env1 ev1 _ fun S1 w F g1 => ?_)
                  have s2 := ihs X G ER W k g qs he2 σ S1 rs2 _ (by rw [g1.g]; exact t2) g1.ok
                  exact s2.exc y (by rw [g1.env]; exact ev) _ (hQ.step (g1.stp.mono fun i hi => by simp only [tchEs]; exact List.mem_append_left _ hi) fun i hi => by simp only [tchEs]; exact List.mem_append_right _ hi)
                · cases ev
            · cases ht
      | true =>
        obtain ⟨i, rfl⟩ := late_var hl
        simp only [typEs, hl] at ht
        cases t0 : typE T (.var i) S.G with
        | none => simp [t0] at ht
        | some p0 =>
          simp only [t0] at ht
          cases t2 : typEs T es' S.G with
          | none => simp [t2] at ht
          | some p2 =>
            obtain ⟨rs2, Γ2⟩ := p2
            simp only [t2] at ht
            cases t1 : typE T (.var i) Γ2 with
            | none => simp [t1] at ht
            | some p1 =>
              obtain ⟨r1, Γ1⟩ := p1
              simp only [t1, Option.some.injEq, Prod.mk.injEq] at ht
              obtain ⟨rfl, rfl⟩ := ht
              cases q <;> simp only [meE, Bool.false_eq_true] at he1
              rename_i x pos
              obtain ⟨n1, n2, n3, n4⟩ := nmB_ok he1
              have s2 := ihs X G ER W k g qs he2 σ S rs2 Γ2 t2 o
              have tE : tchEs (.var i :: es') = tchEs es' := by simp [tchEs, tchE]
              refine ⟨fun vs env' ev Q hQ => ?_, fun y ev Q hQ => ?_⟩
              · simp only [evalEs, hl, Res.bind_ok, evalE] at ev
                obtain ⟨a0, ⟨v0, ev0, _⟩, ⟨vs2, env2⟩, ev2, ⟨v, env3⟩, ⟨v', ev3, e4⟩, e5⟩ := ev
                cases e4
                cases e5
                obtain ⟨w, hw⟩ := var_there o t0 ev0
                refine we_var he1 hw (s2.okV vs2 env2 ev2 _ fun S2 ws Fl g2 va => ?_)
                obtain ⟨w', F, hw', eG, tm, hF0⟩ := var_got g2.ok (by rw [g2.g]; exact t1) (by rw [g2.env]; exact ev3)
                rw [hw] at hw'
                cases hw'
                rw [g2.g] at eG
                refine hQ S2 (w :: ws) (F :: Fl) ⟨g2.env, g2.g.trans eG.symm, tE ▸ g2.stp, g2.ok, .cons tm g2.tmps fun hn Gj hG a ha => ?_, fun j r F' hr hF hn a ha => ?_⟩ (fun n x hi => by
                  cases n with
                  | zero => simp at hi; subst hi; exact ⟨w, rfl, hw⟩
                  | succ n => simpa using va n x (by simpa using hi))
                · rw [hF0 hn] at ha; cases ha
                · cases j with
                  | zero => simp at hr hF; subst hr hF; rw [hF0 hn] at ha; cases ha
                  | succ j => rw [tE]; exact g2.new j r F' (by simpa using hr) (by simpa using hF) hn a ha
              · simp only [evalEs, hl, Res.bind_exc, evalE, Res.bind_ok] at ev
                rcases ev with ev | ⟨a0, ⟨v0, ev0, _⟩, ev⟩
                · rcases ev with ev | ⟨_, _, ev⟩
                  · exact absurd ev getV_exc
                  · cases ev
                · obtain ⟨w, hw⟩ := var_there o t0 ev0
                  rcases ev with ev | ⟨_, _, ev⟩
                  · exact we_var he1 hw (s2.exc y ev _ (tE ▸ hQ))
                  · rcases ev with (ev | ⟨_, _, ev⟩) | ⟨_, _, ev⟩
                    · exact absurd ev getV_exc
                    · cases ev
                    · cases ev
end
end OI
set_option maxRecDepth 100000
set_option maxHeartbeats 4000000
/-! OI7: displays and operators. -/
namespace OI
open PySem PySem.Spec PyProof.Rows L2
section
variable {T : List FnA} {X : Cx} {K : PySem.W.Frag} {σ : St} {S S' : ASt} {M : List Nat} {H : Hp} {Z : Addr → Prop}
theorem clean_mono : ∀ (n : Nat) {m : Nat} {v : PV}, n ≤ m → clean n v = true → clean m v = true
  | 0, _, _, _, c => by simp [clean] at c
  | n + 1, 0, _, h, _ => absurd h (by omega)
  | n + 1, m + 1, v, h, c => by
    cases v with
    | tup xs =>
      simp only [clean, List.all_eq_true] at c ⊢
      exact fun x hx => clean_mono n (by omega) (c x hx)
    | _ => simp_all [clean]
theorem clean_all : ∀ {vs : List PV}, (∀ v ∈ vs, ∃ n, clean n v = true) → ∃ n, ∀ v ∈ vs, clean n v = true
  | [], _ => ⟨0, fun _ h => nomatch h⟩
  | v :: vs, h => by
    obtain ⟨n, a⟩ := h v List.mem_cons_self
    obtain ⟨m, b⟩ := clean_all fun u hu => h u (List.mem_cons_of_mem _ hu)
    refine ⟨max n m, fun u hu => ?_⟩
    rcases List.mem_cons.mp hu with rfl | hu
    · exact clean_mono n (Nat.le_max_left _ _) a
    · exact clean_mono m (Nat.le_max_right _ _) (b u hu)
theorem clean_tup {vs : List PV} (h : ∀ v ∈ vs, ∃ n, clean n v = true) : ∃ n, clean n (.tup vs) = true := by
  obtain ⟨n, q⟩ := clean_all h
  exact ⟨n + 1, by simpa [clean] using q⟩
theorem clean_sub {n : Nat} {vs : List PV} (h : clean n (.tup vs) = true) : ∀ v ∈ vs, ∃ m, clean m v = true := by
  cases n with
  | zero => simp [clean] at h
  | succ n => intro v hv; exact ⟨n, by simp [clean] at h; exact h v hv⟩
theorem Tmps.kept {m : Nat} {rs : List TR} {vs : List PV} {ws : List V} {Fl : List (List Addr)} (h : Tmps K S rs vs ws Fl) (hm : m ≠ 0) (hu : rs.all (useAt m) = true) : Reps K S.H S.Z m vs ws Fl.flatten := by
  induction h with
  | nil => exact .nil
  | @cons r rs v vs w ws F Fl t _ dj ih =>
    simp only [List.all_cons, Bool.and_eq_true] at hu
    refine .cons (t.use hu.1 hm) (ih hu.2) fun a ha hb => ?_
    rcases useAt_src hu.1 with e | e
    · have tr := t.rep
      rw [e] at tr
      rw [tr.cl0.1] at ha; cases ha
    · obtain ⟨G, hG, hb⟩ := List.mem_flatten.mp hb
      exact dj e G hG a ha hb
theorem Tmps.frozen {rs : List TR} {vs : List PV} {ws : List V} {Fl : List (List Addr)} {Z' : Addr → Prop} (h : Tmps K S rs vs ws Fl) (hz : ∀ a, S.Z a → Z' a) (hF : ∀ a ∈ Fl.flatten, Z' a) : Reps K S.H Z' 0 vs ws [] := by
  induction h with
  | nil => exact .nil
  | @cons r rs v vs w ws F Fl t _ dj ih =>
    have h1 : Rep K S.H Z' 0 v w [] := by
      have tr := t.rep
      cases e : r.1 with
      | cl => rw [e] at tr; exact tr.cl0.2 _ _
      | d n =>
        rw [e] at tr
        exact Rep.freeze hz (fun a ha => hF a (by simp [ha])) tr
    exact Reps.cons (F := []) (G := []) h1 (ih fun a ha => hF a (by simp only [List.flatten_cons, List.mem_append]; exact .inr ha)) fun a ha => nomatch ha
theorem Gots.flat {env' : Env} {Γ' : List Gt} {rs : List TR} {vs : List PV} {ws : List V} {Fl : List (List Addr)} (g : Gots K σ M S env' Γ' rs vs S' ws Fl) {m : Nat} (h : rs.all (useAt m) = true) :
    ∀ a ∈ Fl.flatten, (∀ i, a ∉ S'.Fs i) ∧ ¬ S'.Z a ∧ (S.H a = none ∨ Wr M S a) ∧ S'.H a ≠ none := by
  intro a ha
  obtain ⟨G, hG, hb⟩ := List.mem_flatten.mp ha
  obtain ⟨j, hj⟩ := List.mem_iff_getElem?.mp hG
  obtain ⟨r, v, w, hr, _, _, t⟩ := g.tmps.all j G hj
  have hu := List.all_eq_true.mp h r (List.mem_of_getElem? hr)
  have e : r.2 = none := by
    rcases useAt_src hu with e | e
    · have tr := t.rep
      rw [e] at tr
      rw [tr.cl0.1] at hb; cases hb
    · exact e
  refine ⟨fun i => t.own e i a hb, t.nz a hb, g.new j r G hr hj e a hb, fun z => ?_⟩
  obtain ⟨ob, eo, _⟩ := t.rep.trk a hb
  rw [z] at eo; cases eo
theorem Gots.froz {env' : Env} {Γ' : List Gt} {rs : List TR} {vs : List PV} {ws : List V} {Fl : List (List Addr)} (g : Gots K σ M S env' Γ' rs vs S' ws Fl) (h : rs.all (useAt 0) = true) :
    ∃ S2 : ASt, S2.H = S'.H ∧ S2.env = env' ∧ S2.G = Γ' ∧ Stp M S S2 ∧ Ok K σ S2 ∧ Reps K S2.H S2.Z 0 vs ws [] := by
  have fl := g.flat h
  exact ⟨S'.frz Fl.flatten, rfl, g.env, g.g, g.stp.frzB fun a ha => (fl a ha).2.2.1, g.ok.frz (fun a ha => (fl a ha).2.2.2) fun i a ha => (fl a ha).1 i, g.tmps.frozen (fun _ z => .inl z) fun a ha => .inr ha⟩
theorem Tmps.cleans {rs : List TR} {vs : List PV} {ws : List V} {Fl : List (List Addr)} (h : Tmps K S rs vs ws Fl) (hc : rs.all isCl = true) : ∀ v ∈ vs, ∃ n, clean n v = true := by
  induction h with
  | nil => intro v hv; cases hv
  | @cons r rs v vs w ws F Fl t _ dj ih =>
    simp only [List.all_cons, Bool.and_eq_true] at hc
    intro u hu
    rcases List.mem_cons.mp hu with rfl | hu
    · have e : r.1 = .cl := by simpa [isCl] using hc.1
      have tr := t.rep
      rw [e] at tr
      exact tr.2.1
    · exact ih hc.2 u hu
theorem isCl_use {rs : List TR} (h : rs.all isCl = true) (m : Nat) : rs.all (useAt m) = true := by
  rw [List.all_eq_true] at h ⊢
  intro r hr
  have e : r.1 = .cl := by simpa [isCl] using h r hr
  obtain ⟨a, b⟩ := r
  simp only at e
  subst e
  rfl
/-- a new object of kept parts -/
theorem Got.box {env' : Env} {Γ' : List Gt} {rs : List TR} {vs : List PV} {ws : List V} {Fl : List (List Addr)} {m : Nat} {p : Addr} {u : HO} {v : PV} {L : List Addr} (g : Gots K σ M S env' Γ' rs vs S' ws Fl) (h : rs.all (useAt m) = true) (hp : S'.H p = none)
    (hL : ∀ a ∈ L, a = p ∨ a ∈ Fl.flatten) (r : Rep K (upd S'.H p u) S'.Z (m + 1) v (.ref p) L) : Got K σ M S env' Γ' (.d (m + 1), none) v (S'.atH (upd S'.H p u)) (.ref p) L := by
  have fl := g.flat h
  obtain ⟨f1, f2⟩ := g.ok.fresh hp
  refine ⟨g.env, g.g, g.stp.trans (.alloc hp), g.ok.alloc hp, ⟨r, fun _ i a ha => ?_, fun _ e => (nomatch e), fun a ha => ?_⟩, fun _ a ha => ?_⟩
  · rcases hL a ha with rfl | ha
    · exact f1 i
    · exact (fl a ha).1 i
  · rcases hL a ha with rfl | ha
    · exact f2
    · exact (fl a ha).2.1
  · rcases hL a ha with rfl | ha
    · refine .inl ?_
      cases q : S.H a with
      | none => rfl
      | some x => exact absurd hp (g.stp.live a (by simp [q]))
    · exact (fl a ha).2.2.1
theorem Got.mono {M' : List Nat} {env' : Env} {Γ' : List Gt} {r : TR} {v : PV} {w : V} {F : List Addr} (g : Got K σ M S env' Γ' r v S' w F) (h : ∀ i ∈ M, i ∈ M') : Got K σ M' S env' Γ' r v S' w F :=
  ⟨g.env, g.g, g.stp.mono h, g.ok, g.tmp, fun e a ha => (g.new e a ha).imp id fun ⟨i, m, z⟩ => ⟨i, h i m, z⟩⟩
/-- from frozen parts on -/
theorem Got.madeB {S2 : ASt} {env' : Env} {Γ' : List Gt} {τ : Tp} {v : PV} {w : V} {H' : Hp} (e1 : S2.env = env') (e2 : S2.G = Γ') (st : Stp M S S2) (o : Ok K σ S2) (m : Made K S2.H S2.Z v w H') (ht : (τ = .cl ∧ ∃ n, clean n v = true) ∨ τ = .d 0 ∨ τ = .d 1) :
    ∃ S3 F, S3.H = H' ∧ Got K σ M S env' Γ' (τ, none) v S3 w F := by
  obtain ⟨S3, F, e, g⟩ := Got.made (M := M) o m ht
  refine ⟨S3, F, e, ?_⟩
  have := Got.after st g (fun _ h => h) (fun _ h => h)
  rw [e1, e2] at this
  exact this
theorem dCase {d : Nat} (h : d ≤ 1) : (Tp.d d) = .d 0 ∨ (Tp.d d) = .d 1 := by
  match d, h with
  | 0, _ => exact .inl rfl
  | 1, _ => exact .inr rfl
theorem snd_tup {d : Nat} {es : List E} (hs : ∀ e ∈ es, SndE T e) : SndE T (.tup d es) := by
  have ih := snds_iff.mp (snds_of hs)
  refine snd_iff.mpr fun X G ER W k g e he σ S r Γ' ht o => ?_
  cases e <;> simp only [meE, Bool.false_eq_true] at he
  rename_i qs j pos
  simp only [typE] at ht
  cases t1 : typEs T es S.G with
  | none => simp [t1] at ht
  | some p1 =>
    obtain ⟨rs, Γ1⟩ := p1
    simp only [t1] at ht
    have s1 := ih X G ER W k g qs he σ S rs Γ1 t1 o
    have tE : tchE (.tup d es) = tchEs es := by simp [tchE]
    refine ⟨fun v env' ev Q hQ => ?_, fun y ev Q hQ => ?_⟩
    · simp only [evalE, Res.bind_ok, need_ok] at ev
      obtain ⟨⟨vs, env1⟩, ev1, hz, e2⟩ := ev
      cases e2
      refine .of (pe_tup (pa_wl (meEs_plain he))) (s1.ok vs _ ev1 _ fun S1 ws Fl g1 => ⟨?_, fun p hp => ?_⟩)
      · have e := g1.tmps.frozen (Z' := fun _ => True) (fun _ _ => trivial) (fun _ _ => trivial)
        rw [← e.length, sizeLine_eq]; exact hz
      · split at ht
        · rename_i hc
          cases ht
          obtain ⟨S2, e1, e2, e3, st, ok, rp⟩ := g1.froz (isCl_use hc 0)
          obtain ⟨S3, F, e4, g3⟩ := Got.madeB (τ := .cl) e2 e3 st ok (.tup (p := p) (by rw [e1]; exact hp) rp) (.inl ⟨rfl, clean_tup (g1.tmps.cleans hc)⟩)
          rw [← e1, ← e4]
          exact hQ S3 _ F (tE ▸ g3)
        · split at ht
          · rename_i hu
            cases ht
            by_cases hd : d ≤ 1
            · have hu0 : rs.all (useAt 0) = true := by
                have e0 : d - 1 = 0 := by omega
                rw [e0] at hu; exact hu
              obtain ⟨S2, e1, e2, e3, st, ok, rp⟩ := g1.froz hu0
              obtain ⟨S3, F, e4, g3⟩ := Got.madeB (τ := .d d) e2 e3 st ok (.tup (p := p) (by rw [e1]; exact hp) rp) (.inr (dCase hd))
              rw [← e1, ← e4]
              exact hQ S3 _ F (tE ▸ g3)
            · have rp := (g1.tmps.kept (m := d - 1) (by omega) hu)
              have g3 := Got.box (u := .tup ws) (v := .tup vs) (L := Fl.flatten) g1 hu hp (fun a ha => .inr ha) (.tupS upd_same (rp.newH hp))
              have e0 : d - 1 + 1 = d := by omega
              rw [e0] at g3
              exact hQ _ _ _ (tE ▸ g3)
          · cases ht
    · simp only [evalE, Res.bind_exc, need_exc] at ev
      rcases ev with ev | ⟨_, _, _, ev⟩
      · exact .of (pe_tup (pa_wl (meEs_plain he))) (s1.exc y ev _ (tE ▸ hQ))
      · cases ev
theorem snd_lst {d : Nat} {es : List E} (hs : ∀ e ∈ es, SndE T e) : SndE T (.lst d es) := by
  have ih := snds_iff.mp (snds_of hs)
  refine snd_iff.mpr fun X G ER W k g e he σ S r Γ' ht o => ?_
  cases e <;> simp only [meE, Bool.false_eq_true] at he
  rename_i qs pos
  simp only [typE] at ht
  cases t1 : typEs T es S.G with
  | none => simp [t1] at ht
  | some p1 =>
    obtain ⟨rs, Γ1⟩ := p1
    simp only [t1] at ht
    have s1 := ih X G ER W k g qs he σ S rs Γ1 t1 o
    have tE : tchE (.lst d es) = tchEs es := by simp [tchE]
    refine ⟨fun v env' ev Q hQ => ?_, fun y ev Q hQ => ?_⟩
    · simp only [evalE, Res.bind_ok, need_ok] at ev
      obtain ⟨⟨vs, env1⟩, ev1, hz, e2⟩ := ev
      cases e2
      refine .of (pe_lst (pa_wl (meEs_plain he))) (s1.ok vs _ ev1 _ fun S1 ws Fl g1 => ⟨?_, fun p hp => ?_⟩)
      · have e := g1.tmps.frozen (Z' := fun _ => True) (fun _ _ => trivial) (fun _ _ => trivial)
        rw [← e.length, sizeLine_eq]; exact hz
      · split at ht
        · rename_i hu
          cases ht
          by_cases hd : d ≤ 1
          · have hu0 : rs.all (useAt 0) = true := by
              have e0 : d - 1 = 0 := by omega
              rw [e0] at hu; exact hu
            obtain ⟨S2, e1, e2, e3, st, ok, rp⟩ := g1.froz hu0
            obtain ⟨S3, F, e4, g3⟩ := Got.madeB (τ := .d d) e2 e3 st ok (.lst (p := p) (by rw [e1]; exact hp) rp) (.inr (dCase hd))
            rw [← e1, ← e4]
            exact hQ S3 _ F (tE ▸ g3)
          · have rp := (g1.tmps.kept (m := d - 1) (by omega) hu)
            have np : p ∉ Fl.flatten := fun ha => (g1.flat hu p ha).2.2.2 hp
            have g3 := Got.box (u := .lst ws) (v := .lst vs) (L := p :: Fl.flatten) g1 hu hp (fun a ha => List.mem_cons.mp ha) (.lstS upd_same (rp.newH hp) np)
            have e0 : d - 1 + 1 = d := by omega
            rw [e0] at g3
            exact hQ _ _ _ (tE ▸ g3)
        · cases ht
    · simp only [evalE, Res.bind_exc, need_exc] at ev
      rcases ev with ev | ⟨_, _, _, ev⟩
      · exact .of (pe_lst (pa_wl (meEs_plain he))) (s1.exc y ev _ (tE ▸ hQ))
      · cases ev
end
end OI
set_option maxRecDepth 100000
set_option maxHeartbeats 4000000
/-! OI8: what operators make, by values. -/
namespace OI
open PySem PySem.Spec PyProof.Rows L2
section
variable {X : Cx} {K : PySem.W.Frag} {H : Hp} {Z : Addr → Prop}
theorem Shal.int {i : Int} {w : V} (h : Shal K H Z (.int i) w) : w = .int i := by
  cases h with
  | at_ h _ _ _ => cases h Z 0; rfl
theorem Shal.bl {i : Bool} {w : V} (h : Shal K H Z (.bl i) w) : w = .bl i := by
  cases h with
  | at_ h _ _ _ => cases h Z 0; rfl
theorem Shal.str {i : Str} {w : V} (h : Shal K H Z (.str i) w) : w = .str i := by
  cases h with
  | at_ h _ _ _ => cases h Z 0; rfl
theorem Shal.non {w : V} (h : Shal K H Z .non w) : w = .non := by
  cases h with
  | at_ h _ _ _ => cases h Z 0; rfl
theorem Shal.tupI {xs : List PV} {w : V} (h : Shal K H Z (.tup xs) w) : ∃ a ws, w = .ref a ∧ H a = some (.tup ws) ∧ Reps K H Z 0 xs ws [] := by
  cases h with
  | at_ _ h _ _ => exact absurd rfl (h xs)
  | tup h1 h2 => exact ⟨_, _, rfl, h1, h2⟩
theorem Shal.lstI {xs : List PV} {w : V} (h : Shal K H Z (.lst xs) w) : ∃ a ws, w = .ref a ∧ Rd H a (.lst ws) ∧ Reps K H Z 0 xs ws [] := by
  cases h with
  | at_ _ _ h _ => exact absurd rfl (h xs)
  | lst h1 h2 => exact ⟨_, _, rfl, h1, h2⟩
theorem Shal.dctI {t : Bool} {ks vs : List PV} {w : V} (h : Shal K H Z (.dct t ks vs) w) : ∃ a u ws, w = .ref a ∧ H a = some u ∧ Dct t u ks ws ∧ Reps K H Z 0 vs ws [] := by
  cases h with
  | at_ _ _ _ h => exact absurd rfl (h t ks vs)
  | dct h1 h2 h3 => exact ⟨_, _, _, rfl, h1, h2, h3⟩
theorem Made.int {i : Int} : Made K H Z (.int i) (.int i) H := .old (.int i) (.int i)
theorem Made.str {i : Str} : Made K H Z (.str i) (.str i) H := .old (.str i) (.str i)
theorem Made.bl {i : Bool} : Made K H Z (.bl i) (.bl i) H := .old (.bl i) (.bl i)
theorem Made.non : Made K H Z .non .non H := .old .non .non
theorem Made.tupOld {xs : List PV} {a : Addr} {ws : List V} (h : H a = some (.tup ws)) (r : Reps K H Z 0 xs ws []) : Made K H Z (.tup xs) (.ref a) H := .old (.tup0 h r) (.tupS h r)
theorem Reps.append {d : Nat} {xs ys : List PV} {us ws : List V} {F G : List Addr} (h : Reps K H Z d xs us F) (h' : Reps K H Z d ys ws G) (dj : ∀ a ∈ F, a ∉ G) : Reps K H Z d (xs ++ ys) (us ++ ws) (F ++ G) := by
  induction xs generalizing us F with
  | nil => cases h; exact h'
  | cons x xs ih =>
    cases h with
    | @cons _ _ w _ us' F1 G1 h1 h2 h3 =>
      have := Reps.cons h1 (ih h2 fun a ha => dj a (by simp [ha])) fun a ha hb => by
        rcases List.mem_append.mp hb with hb | hb
        · exact h3 a ha hb
        · exact dj a (by simp [ha]) hb
      rw [List.append_assoc]
      exact this
theorem Reps.app0 {xs ys : List PV} {us ws : List V} (h : Reps K H Z 0 xs us []) (h' : Reps K H Z 0 ys ws []) : Reps K H Z 0 (xs ++ ys) (us ++ ws) [] := Reps.append h h' fun a ha => nomatch ha
theorem rd_list {pins : List (Addr × Obj)} {σ : St} {s : Shared} {a : Addr} {ws : List V} (I : Inv X pins σ H s) (h : Rd H a (.lst ws)) : ws.length ≤ sizeLine ∧ ∃ (its : List Value) (n : Nat), Vals ws its ∧ s.heap.get? a = some { cls := .type "list", data := .seq its.toArray n } := h.ok I.hok
/-- xs + ys, whoever else holds them -/
theorem op_catR : OpR X (binaryOp .Add) (fun x y H Q => ∃ a b xs ys, x = .ref a ∧ y = .ref b ∧ Rd H a (.lst xs) ∧ Rd H b (.lst ys) ∧ xs.length + ys.length ≤ sizeLine ∧ ∀ p, H p = none → Q (.ref p) (upd H p (.lst (xs ++ ys)))) := by
  intro pins s σ H x y v u Q I rx ry h
  obtain ⟨a, b, xs, ys, rfl, rfl, ha, hb, hz, q⟩ := h
  cases rx
  cases ry
  obtain ⟨z, its, n, r, e⟩ := rd_list I ha
  obtain ⟨z2, its2, n2, r2, e2⟩ := rd_list I hb
  have l1 := r.length
  have l2 := r2.length
  refine PySem.P.add_list e e2 ?_ (by rw [List.size_toArray, List.size_toArray, ← l1, ← l2]; exact hz)
  have q2 := I.lnew (t' := s.toks) (r.append r2) (by rw [List.length_append]; exact hz)
  rw [← List.append_toArray] at q2
  exact ⟨.ref _, _, q2, rfl, q _ I.fresh⟩
/-- what is wished of values follows from what is made -/
def Mk2 (X : Cx) (f : Value → Value → Sem Value) (H : Hp) (Z : Addr → Prop) (v : PV) (x y : V) : Prop := ∃ r, OpR X f r ∧ ∀ Q : VK, (∀ w H', Made X.K H Z v w H' → Q w H') → r x y H Q
theorem mulOk_ok {i j : Int} (h : mulOk i j) : CMul i j ∨ CMulW i j := by
  rcases h with h | h | h
  · exact .inl (.inl h)
  · exact .inl (.inr h)
  · exact .inr h
theorem bin_val {op : Operator} {a b v : PV} {x y : V} (hv : binP op a b = .ok v) (ha : Shal X.K H Z a x) (hb : Shal X.K H Z b y) : Mk2 X (binaryOp op) H Z v x y := by
  cases op <;> cases a <;> cases b <;> simp only [binP, reduceCtorEq] at hv
  · -- ints
    rw [ha.int, hb.int]
    cases hv
    exact ⟨_, op_add, fun Q h => ⟨_, _, rfl, rfl, h _ _ .int⟩⟩
  · rw [ha.str, hb.str]
    obtain ⟨hz, hv⟩ := need_ok.mp hv
    cases hv
    exact ⟨_, op_add_str, fun Q h => ⟨_, _, rfl, rfl, by rw [sizeLine_eq]; exact hz, h _ _ .str⟩⟩
  · obtain ⟨p, us, rfl, s1, r1⟩ := ha.tupI
    obtain ⟨q, ws, rfl, s2, r2⟩ := hb.tupI
    obtain ⟨hz, hv⟩ := need_ok.mp hv
    cases hv
    refine ⟨_, op_catA, fun Q h => ⟨p, q, us, ws, rfl, rfl, .of s1, .of s2, ?_, fun e => ?_, fun _ e => ?_, fun _ _ t ht => ?_⟩⟩
    · rw [← r1.length, ← r2.length, sizeLine_eq]; exact hz
    · subst e
      cases r1
      exact h _ _ (.tupOld s2 r2)
    · subst e
      cases r2
      rw [List.append_nil] at h
      exact h _ _ (.tupOld s1 r1)
    · exact h _ _ (.tup ht (r1.app0 r2))
  · obtain ⟨p, us, rfl, s1, r1⟩ := ha.lstI
    obtain ⟨q, ws, rfl, s2, r2⟩ := hb.lstI
    obtain ⟨hz, hv⟩ := need_ok.mp hv
    cases hv
    exact ⟨_, op_catR, fun Q h => ⟨p, q, us, ws, rfl, rfl, s1, s2, by rw [← r1.length, ← r2.length, sizeLine_eq]; exact hz, fun t ht => h _ _ (.lst ht (r1.app0 r2))⟩⟩
  · rw [ha.int, hb.int]
    cases hv
    exact ⟨_, op_sub, fun Q h => ⟨_, _, rfl, rfl, h _ _ .int⟩⟩
  · rw [ha.int, hb.int]
    obtain ⟨hz, hv⟩ := need_ok.mp hv
    cases hv
    rcases mulOk_ok hz with hz | hz
    · exact ⟨_, op_mul, fun Q h => ⟨_, _, rfl, rfl, hz, h _ _ .int⟩⟩
    · exact ⟨_, op_mulW, fun Q h => ⟨_, _, rfl, rfl, hz, h _ _ .int⟩⟩
  · rw [ha.int, hb.int]
    obtain ⟨hz, hv⟩ := need_ok.mp hv
    cases hv
    exact ⟨_, op_mod, fun Q h => ⟨_, _, rfl, rfl, hz, h _ _ .int⟩⟩
  · rw [ha.int, hb.int]
    obtain ⟨hz, hv⟩ := need_ok.mp hv
    cases hv
    exact ⟨_, op_pow, fun Q h => ⟨_, _, rfl, rfl, hz, h _ _ .int⟩⟩
  · rw [ha.int, hb.int]
    obtain ⟨hz, hv⟩ := need_ok.mp hv
    cases hv
    exact ⟨_, op_shl, fun Q h => ⟨_, _, rfl, rfl, hz, h _ _ .int⟩⟩
  · rw [ha.int, hb.int]
    obtain ⟨hz, hv⟩ := need_ok.mp hv
    cases hv
    exact ⟨_, op_fdivW, fun Q h => ⟨_, _, rfl, rfl, hz, h _ _ .int⟩⟩
end
end OI
set_option maxRecDepth 100000
set_option maxHeartbeats 4000000
/-! OI9: expressions made of operators. -/
namespace OI
open PySem PySem.Spec PyProof.Rows L2
section
variable {T : List FnA} {X : Cx} {K : PySem.W.Frag} {σ : St} {S S' : ASt} {M : List Nat} {H : Hp} {Z : Addr → Prop}
/-- by some rule -/
def OpAny (X : Cx) (f : Value → Value → Sem Value) : R2 := fun x y H Q => ∃ r, OpR X f r ∧ r x y H Q
theorem opAny {f : Value → Value → Sem Value} : OpR X f (OpAny X f) := fun pins s σ H x y v u Q I rx ry ⟨r, o, q⟩ => o pins s σ H x y v u Q I rx ry q
theorem Gots.two {env' : Env} {Γ' : List Gt} {rs : List TR} {a b : PV} {ws : List V} {Fl : List (List Addr)} (g : Gots K σ M S env' Γ' rs [a, b] S' ws Fl) :
    ∃ r q x y F G, rs = [r, q] ∧ ws = [x, y] ∧ Fl = [F, G] ∧ Tmp K S' r.1 r.2 a x F ∧ Tmp K S' q.1 q.2 b y G := by
  have t := g.tmps
  cases t with
  | cons t1 t2 d =>
    cases t2 with
    | cons t2 t3 d2 =>
      cases t3
      exact ⟨_, _, _, _, _, _, rfl, rfl, rfl, t1, t2⟩
theorem isCl_shal {rs : List TR} (h : rs.all isCl = true) : rs.all shal = true := by
  rw [List.all_eq_true] at h ⊢
  intro r hr
  have e : r.1 = .cl := by simpa [isCl] using h r hr
  simp [shal, e]
/-- two operands read, the rest of the steps from there on -/
theorem wl_two {qa qb : Expr} {Q : VK} {f : Value → Value → Sem Value} (h : WL X [qa, qb] σ H fun ws H' => ∃ x y, ws = [x, y] ∧ OpAny X f x y H' Q) : tOp (OpAny X f) (WE X qa) (WE X qb) σ H Q :=
  WE.imp h fun x H1 h => WE.imp h fun y H2 ⟨x', y', e, q⟩ => by
    cases e
    exact q
theorem binP_clean {op : Operator} {a b v : PV} (h : binP op a b = .ok v) (ha : ∃ n, clean n a = true) (hb : ∃ n, clean n b = true) : ∃ n, clean n v = true := by
  obtain ⟨n, ha⟩ := ha
  obtain ⟨m, hb⟩ := hb
  cases op <;> cases a <;> cases b <;> simp only [binP, reduceCtorEq] at h <;> first
    | (cases h; exact ⟨1, rfl⟩)
    | (obtain ⟨_, h⟩ := need_ok.mp h; cases h; exact ⟨1, rfl⟩)
    | (obtain ⟨_, h⟩ := need_ok.mp h; cases h
       refine clean_tup fun v hv => ?_
       rcases List.mem_append.mp hv with hv | hv
       · exact clean_sub ha v hv
       · exact clean_sub hb v hv)
    | (cases n <;> simp [clean] at ha)
theorem snd_bin {d : Nat} {op : Operator} {es : List E} (hs : ∀ e ∈ es, SndE T e) : SndE T (.bin d op es) := by
  have ih := snds_iff.mp (snds_of hs)
  refine snd_iff.mpr fun X G ER W k g e he σ S r Γ' ht o => ?_
  cases e <;> simp only [meE, Bool.false_eq_true] at he
  rename_i qa op' qb pos
  simp only [Bool.and_eq_true, decide_eq_true_eq] at he
  obtain ⟨rfl, he⟩ := he
  simp only [typE] at ht
  cases t1 : typEs T es S.G with
  | none => simp [t1] at ht
  | some p1 =>
    obtain ⟨rs, Γ1⟩ := p1
    simp only [t1] at ht
    have s1 := ih X G ER W k g [qa, qb] he σ S rs Γ1 t1 o
    have tE : tchE (.bin d op es) = tchEs es := by simp [tchE]
    refine ⟨fun v env' ev Q hQ => ?_, fun y ev Q hQ => ?_⟩
    · simp only [evalE, Res.bind_ok] at ev
      obtain ⟨⟨vs, env1⟩, ev1, e2⟩ := ev
      split at e2
      · rename_i a b hab
        simp only at hab
        subst hab
        obtain ⟨u, hv, e3⟩ := Res.bind_ok.mp e2
        cases e3
        refine .of (pe_op opAny pe_we pe_we) (wl_two (s1.ok _ _ ev1 _ fun S1 ws Fl g1 => ?_))
        obtain ⟨r1, r2, x, y, F1, F2, e4, rfl, _, tm1, tm2⟩ := g1.two
        refine ⟨x, y, rfl, ?_⟩
        have hsh : rs.all shal = true := by
          split at ht
          · rename_i hc; exact isCl_shal hc
          · split at ht
            · rename_i hc; exact (Bool.and_eq_true_iff.mp hc).1
            · cases ht
        rw [e4] at hsh
        simp only [List.all_cons, List.all_nil, Bool.and_true, Bool.and_eq_true] at hsh
        obtain ⟨ru, hop, hru⟩ := bin_val hv (tm1.shal hsh.1) (tm2.shal hsh.2)
        refine ⟨ru, hop, hru Q fun w H' m => ?_⟩
        have fin : ∀ τ, ((τ = .cl ∧ ∃ n, clean n v = true) ∨ τ = .d 0 ∨ τ = .d 1) → r = (τ, none) → Γ' = Γ1 → Q w H' := fun τ hτ er eg => by
          obtain ⟨S3, F, e4, g3⟩ := Got.madeB (τ := τ) g1.env g1.g g1.stp g1.ok m hτ
          rw [← e4]
          subst er eg
          exact hQ S3 _ F (tE ▸ g3)
        split at ht
        · rename_i hc
          cases ht
          refine fin .cl (.inl ⟨rfl, ?_⟩) rfl rfl
          have cs := g1.tmps.cleans hc
          exact binP_clean hv (cs a (by simp)) (cs b (by simp))
        · split at ht
          · rename_i hc
            cases ht
            exact fin _ (.inr (dCase (of_decide_eq_true (Bool.and_eq_true_iff.mp hc).2))) rfl rfl
          · cases ht
      · cases e2
    · simp only [evalE, Res.bind_exc] at ev
      rcases ev with ev | ⟨⟨vs, env1⟩, ev1, e2⟩
      · exact .of (pe_op opAny pe_we pe_we) (wl_two (s1.exc y ev _ (tE ▸ hQ)))
      · exfalso
        split at e2
        · rename_i a b hab
          rcases Res.bind_exc.mp e2 with e2 | ⟨_, _, e2⟩
          · cases op <;> cases a <;> cases b <;> simp [binP, need] at e2 <;> (try split at e2) <;> simp at e2
          · cases e2
        · cases e2
end
end OI
set_option maxRecDepth 100000
set_option maxHeartbeats 4000000
/-! OI10: slots, truth, what moves. -/
namespace OI
open PySem PySem.Spec PyProof.Rows L2
section
variable {T : List FnA} {X : Cx} {K : PySem.W.Frag} {σ σ' : St} {S S' : ASt} {M : List Nat} {H : Hp} {Z : Addr → Prop}
/-- the steps alone -/
structure Stepd (K : PySem.W.Frag) (σ : St) (M : List Nat) (S : ASt) (env' : Env) (Γ' : List Gt) (S' : ASt) : Prop where
  env : S'.env = env'
  g : S'.G = Γ'
  stp : Stp M S S'
  ok : Ok K σ S'
theorem Got.stepd {env' : Env} {Γ' : List Gt} {r : TR} {v : PV} {w : V} {F : List Addr} (g : Got K σ M S env' Γ' r v S' w F) : Stepd K σ M S env' Γ' S' := ⟨g.env, g.g, g.stp, g.ok⟩
theorem killA_at {x j : Nat} {Γ : List Gt} : (killA x Γ)[j]? = (Γ[j]?).map fun g => match g with
    | .al y ks => if y = x then .dead else .al y ks
    | g => g := by
  unfold killA
  rw [List.getElem?_map]
  all_goals congr 1
theorem killA_t {x j : Nat} {Γ : List Gt} {τ : Tp} : (killA x Γ)[j]? = some (.t τ) ↔ Γ[j]? = some (.t τ) := by
  rw [killA_at]
  cases h : Γ[j]? with
  | none => simp
  | some g =>
    cases g with
    | al y ks => simp; split <;> simp
    | _ => simp
theorem killA_al {x j : Nat} {Γ : List Gt} {y : Nat} {ks : List Kc} : (killA x Γ)[j]? = some (.al y ks) ↔ Γ[j]? = some (.al y ks) ∧ y ≠ x := by
  rw [killA_at]
  cases h : Γ[j]? with
  | none => simp
  | some g =>
    cases g with
    | al y' ks' =>
      simp only [Option.map_some, Option.some.injEq]
      split
      · rename_i e; simp; intro e1; subst e1; simp [e]
      · rename_i e; simp; rintro rfl rfl; exact e
    | _ => simp
theorem killA_len {x : Nat} {Γ : List Gt} : (killA x Γ).length = Γ.length := by simp [killA]
theorem setT_len {x : Nat} {g : Gt} {Γ : List Gt} : (setT x g Γ).length = Γ.length := by simp [setT, killA_len]
theorem setT_ne {i j : Nat} {g : Gt} {Γ : List Gt} (h : j ≠ i) : (setT i g Γ)[j]? = (killA i Γ)[j]? := by
  unfold setT; rw [List.getElem?_set_ne (Ne.symm h)]
theorem setT_eq {i : Nat} {g : Gt} {Γ : List Gt} (h : i < Γ.length) : (setT i g Γ)[i]? = some g := by
  unfold setT; rw [List.getElem?_set_self (by rw [killA_len]; exact h)]
abbrev ASt.put (S : ASt) (i : Nat) (env' : Env) (g : Gt) (F : List Addr) (Z' : Addr → Prop) : ASt := { S with env := env', G := setT i g S.G, Fs := fun j => if j = i then F else S.Fs j, Z := Z' }
/-- a slot's new thing -/
theorem Ok.put (o : Ok K σ S) {i : Nat} {env' : Env} {g : Gt} {F : List Addr} {Z' : Addr → Prop} (hi : i < S.G.length) (hl : env'.length = σ'.length) (he : ∀ j, j ≠ i → env'[j]? = S.env[j]?) (hσ : ∀ j, j ≠ i → σ'[j]? = σ[j]?)
    (hna : ∀ x ks, g ≠ .al x ks) (hg : ∀ τ v, g = .t τ → env'[i]? = some (some v) → ∃ w, σ'[i]? = some (some w) ∧ RepT K S.H Z' τ v w F) (hno : (∀ τ, g ≠ .t τ) ∨ (∀ v, env'[i]? ≠ some (some v)) → F = [])
    (hz : ∀ a, S.Z a → Z' a) (hZ : ∀ a, Z' a → S.Z a ∨ (S.H a ≠ none ∧ ∀ j, j ≠ i → a ∉ S.Fs j)) (hF : ∀ a ∈ F, ¬ Z' a ∧ (∀ j, j ≠ i → a ∉ S.Fs j) ∧ ∃ ob, S.H a = some ob ∧ imm ob = false) : Ok K σ' (S.put i env' g F Z') where
  len := hl
  slot := fun j τ v h1 h2 => by
    by_cases e : j = i
    · subst e
      have h1 : (setT j g S.G)[j]? = some (.t τ) := h1
      rw [setT_eq hi] at h1
      obtain ⟨w, e1, r⟩ := hg τ v (Option.some.inj h1) h2
      refine ⟨w, e1, ?_⟩
      show RepT K S.H Z' τ v w (if j = j then F else S.Fs j)
      rw [if_pos rfl]; exact r
    · have h1 : (setT i g S.G)[j]? = some (.t τ) := h1
      rw [setT_ne e, killA_t] at h1
      have h2 : env'[j]? = some (some v) := h2
      rw [he j e] at h2
      obtain ⟨w, e1, r⟩ := o.slot j τ v h1 h2
      refine ⟨w, (hσ j e).trans e1, ?_⟩
      show RepT K S.H Z' τ v w (if j = i then F else S.Fs j)
      rw [if_neg e]
      exact r.keep (W := fun _ => False) .refl (fun _ _ z => z) (fun _ _ z => z) hz
  no := fun j h => by
    show (if j = i then F else S.Fs j) = []
    by_cases e : j = i
    · subst e
      rw [if_pos rfl]
      refine hno (h.imp (fun h τ => ?_) fun h => h)
      intro e2
      exact h τ (by show (setT j g S.G)[j]? = _; rw [setT_eq hi, e2])
    · rw [if_neg e]
      refine o.no j (h.imp (fun h τ e2 => h τ ?_) fun h v e2 => h v ?_)
      · show (setT i g S.G)[j]? = _
        rw [setT_ne e, killA_t]; exact e2
      · show env'[j]? = _
        rw [he j e]; exact e2
  al := fun y x ks h => by
    have h : (setT i g S.G)[y]? = some (.al x ks) := h
    by_cases e : y = i
    · subst e
      rw [setT_eq hi] at h
      exact absurd (Option.some.inj h) (hna x ks)
    · rw [setT_ne e, killA_al] at h
      obtain ⟨wx, wy, e1, e2, f⟩ := o.al y x ks h.1
      refine ⟨wx, wy, (hσ x h.2).trans e1, (hσ y e).trans e2, fun H' hk => f H' fun a ha => hk a ?_⟩
      show a ∈ (if x = i then F else S.Fs x)
      rw [if_neg h.2]; exact ha
  apart := fun j k hjk a ha hb => by
    have ha : a ∈ (if j = i then F else S.Fs j) := ha
    have hb : a ∈ (if k = i then F else S.Fs k) := hb
    by_cases e : j = i
    · rw [if_pos e] at ha
      have e' : k ≠ i := fun z => hjk (e.trans z.symm)
      rw [if_neg e'] at hb
      exact (hF a ha).2.1 k e' hb
    · rw [if_neg e] at ha
      by_cases e' : k = i
      · rw [if_pos e'] at hb
        exact (hF a hb).2.1 j e ha
      · rw [if_neg e'] at hb
        exact o.apart j k hjk a ha hb
  nz := fun j a ha z => by
    have ha : a ∈ (if j = i then F else S.Fs j) := ha
    by_cases e : j = i
    · rw [if_pos e] at ha
      exact (hF a ha).1 z
    · rw [if_neg e] at ha
      rcases hZ a z with z | z
      · exact o.nz j a ha z
      · exact z.2 j e ha
  trk := fun j a ha => by
    have ha : a ∈ (if j = i then F else S.Fs j) := ha
    by_cases e : j = i
    · rw [if_pos e] at ha
      exact (hF a ha).2.2
    · rw [if_neg e] at ha
      exact o.trk j a ha
  ztr := fun a z => (hZ a z).elim (o.ztr a) fun z => z.1
theorem Stp.put {i : Nat} {env' : Env} {g : Gt} {F : List Addr} {Z' : Addr → Prop} (hi : i ∈ M) (he : ∀ j, j ≠ i → env'[j]? = S.env[j]?) (hz : ∀ a, S.Z a → Z' a) (hZ : ∀ a, Z' a → S.Z a ∨ S.H a = none ∨ Wr M S a) (hF : ∀ a ∈ F, S.H a = none ∨ Wr M S a) :
    Stp M S (S.put i env' g F Z') where
  env := fun j n => he j fun e => n (e ▸ hi)
  fs := fun j n => by
    show (if j = i then F else S.Fs j) = _
    rw [if_neg fun e : j = i => n (e ▸ hi)]
  keep := .refl
  z := hz
  znew := hZ
  fnew := fun j a ha => by
    have ha : a ∈ (if j = i then F else S.Fs j) := ha
    by_cases e : j = i
    · rw [if_pos e] at ha; exact .inr (hF a ha)
    · rw [if_neg e] at ha; exact .inl ha
  live := fun _ z => z
theorem gat_len {Γ : List Gt} {i : Nat} {τ : Tp} (h : gat Γ i = .t τ) : i < Γ.length := by
  have := gat_some h
  exact (List.getElem?_eq_some_iff.mp this).1
theorem snd_mv {i : Nat} : SndE T (.mv i) := by
  refine snd_iff.mpr fun X G ER W k g e he σ S r Γ' ht o => ?_
  cases e <;> simp only [meE, Bool.false_eq_true] at he
  rename_i x pos
  refine ⟨fun v env' ev Q hQ => ?_, fun y ev => ?_⟩
  · simp only [evalE, Res.bind_ok] at ev
    obtain ⟨u, ev, e2⟩ := ev
    cases e2
    have ev' := getV_ok.mp ev
    simp only [typE] at ht
    split at ht
    · rename_i τ hg
      cases ht
      obtain ⟨w, e1, rp⟩ := o.slot i _ _ (gat_some hg) ev'
      have hi := gat_len hg
      have ap : ∀ j, ∀ a ∈ S.Fs i, a ∉ (if j = i then ([] : List Addr) else S.Fs j) := fun j a ha hb => by
        by_cases e : j = i
        · rw [if_pos e] at hb; cases hb
        · rw [if_neg e] at hb; exact o.apart i j (Ne.symm e) a ha hb
      refine we_var he e1 (hQ (S.put i S.env .dead [] S.Z) w (S.Fs i) ⟨rfl, rfl, ?_, ?_, ⟨rp, fun _ j a ha => ap j a ha, fun x hx => (nomatch hx), o.nz i⟩, fun _ a ha => .inr ⟨i, by simp [tchE], ha⟩⟩)
      · exact .put (by simp [tchE]) (fun _ _ => rfl) (fun _ z => z) (fun _ z => .inl z) fun _ h => nomatch h
      · exact o.put hi o.len (fun _ _ => rfl) (fun _ _ => rfl) (fun _ _ h => nomatch h) (fun _ _ h => nomatch h) (fun _ => rfl) (fun _ z => z) (fun _ z => .inl z) fun _ h => nomatch h
    · cases ht
  · simp only [evalE, Res.bind_exc] at ev
    rcases ev with ev | ⟨a, _, ev⟩
    · exact absurd ev getV_exc
    · cases ev
/-- a slot's thing frozen -/
theorem Ok.frzSlot (o : Ok K σ S) {i : Nat} {τ : Tp} (hg : gat S.G i = .t τ) : Ok K σ (S.put i S.env (.t (.d 0)) [] fun a => S.Z a ∨ a ∈ S.Fs i) := by
  refine o.put (gat_len hg) o.len (fun _ _ => rfl) (fun _ _ => rfl) (fun _ _ h => nomatch h) (fun τ' v e1 e2 => ?_) (fun _ => rfl) (fun _ z => .inl z) (fun a z => ?_) fun _ h => nomatch h
  · cases e1
    obtain ⟨w, e3, rp⟩ := o.slot i _ _ (gat_some hg) e2
    refine ⟨w, e3, ?_⟩
    cases τ with
    | cl => exact (rp.cl0.2 _ _)
    | d n => exact Rep.freeze (fun _ z => .inl z) (fun _ z => .inr z) rp
  · rcases z with z | z
    · exact .inl z
    · refine .inr ⟨fun e => ?_, fun j hj hb => o.apart i j (Ne.symm hj) a z hb⟩
      obtain ⟨ob, e2, _⟩ := o.trk i a z
      rw [e] at e2; cases e2
theorem Stp.frzSlot {i : Nat} (hi : i ∈ M) : Stp M S (S.put i S.env (.t (.d 0)) [] fun a => S.Z a ∨ a ∈ S.Fs i) :=
  .put hi (fun _ _ => rfl) (fun _ z => .inl z) (fun _ z => z.imp id fun z => .inr ⟨i, hi, z⟩) fun _ h => nomatch h
theorem snd_fz {i : Nat} {e' : E} (h : SndE T e') : SndE T (.fz i e') := by
  have ih := snd_iff.mp h
  refine snd_iff.mpr fun X G ER W k g e he σ S r Γ' ht o => ?_
  simp only [meE, Bool.and_eq_true] at he
  replace he := he.2
  simp only [typE] at ht
  cases t1 : typE T e' S.G with
  | none => simp [t1] at ht
  | some p1 =>
    obtain ⟨r1, Γ1⟩ := p1
    have s1 := ih X G ER W k g e he σ S r1 Γ1 t1 o
    simp only [t1] at ht
    split at ht
    · rename_i n x Γ2 hp
      cases hp
      split at ht
      · rename_i τ hg
        split at ht
        · rename_i hxi
          cases ht
          subst hxi
          refine ⟨fun v env' ev Q hQ => ?_, fun y ev Q hQ => ?_⟩
          · simp only [evalE] at ev
            refine s1.ok v env' ev _ fun S1 w F g1 => ?_
            have hM : x ∈ tchE (.fz x e') := by simp [tchE]
            have hg1 : gat S1.G x = .t τ := by rw [g1.g]; exact hg
            have tr : Rep X.K S1.H S1.Z n v w F := g1.tmp.rep
            refine hQ (S1.put x S1.env (.t (.d 0)) [] fun a => S1.Z a ∨ a ∈ S1.Fs x) w [] ⟨g1.env, by show setT x _ S1.G = _; rw [g1.g], ?_, g1.ok.frzSlot hg1, ⟨Rep.freeze (fun _ z => .inl z) (fun a ha => .inr (g1.tmp.bor x rfl a ha)) tr, fun _ _ _ h => (nomatch h), fun _ _ _ h => (nomatch h), fun _ h => (nomatch h)⟩, fun _ _ h => (nomatch h)⟩
            exact (g1.stp.mono fun j hj => by simp only [tchE]; exact List.mem_cons_of_mem _ hj).trans ((Stp.frzSlot (M := [x]) (by simp)).mono fun j hj => by simp at hj; subst hj; exact hM)
          · simp only [evalE] at ev
            exact s1.exc y ev _ (hQ.mono fun j hj => by simp only [tchE]; exact List.mem_cons_of_mem _ hj)
        · cases ht
      · cases ht
    · cases ht
theorem clean_rep {τ : Tp} {v : PV} {w : V} {F : List Addr} {n : Nat} (c : clean n v = true) (h : RepT K H Z τ v w F) : F = [] ∧ Rep K H Z 0 v w [] := by
  cases τ with
  | cl => exact ⟨h.1, h.2.2⟩
  | d m =>
    obtain ⟨e, q⟩ := rep_clean n c h
    exact ⟨e, q _ _⟩
theorem snd_cln {e' : E} (h : SndE T e') : SndE T (.cln e') := by
  have ih := snd_iff.mp h
  refine snd_iff.mpr fun X G ER W k g e he σ S r Γ' ht o => ?_
  simp only [meE, Bool.and_eq_true] at he
  replace he := he.2
  simp only [typE] at ht
  cases t1 : typE T e' S.G with
  | none => simp [t1] at ht
  | some p1 =>
    obtain ⟨r1, Γ1⟩ := p1
    have s1 := ih X G ER W k g e he σ S r1 Γ1 t1 o
    simp only [t1, Option.some.injEq, Prod.mk.injEq] at ht
    obtain ⟨rfl, rfl⟩ := ht
    refine ⟨fun v env' ev Q hQ => ?_, fun y ev Q hQ => ?_⟩
    · simp only [evalE, Res.bind_ok, need_ok] at ev
      obtain ⟨⟨v1, env1⟩, ev, hc, e2⟩ := ev
      cases e2
      refine s1.ok v env' ev _ fun S1 w F g1 => ?_
      obtain ⟨eF, rp⟩ := clean_rep hc g1.tmp.rep
      exact hQ S1 w [] ⟨g1.env, g1.g, g1.stp, g1.ok, ⟨⟨rfl, ⟨60, hc⟩, rp⟩, fun _ _ _ h => (nomatch h), fun _ _ _ h => (nomatch h), fun _ h => (nomatch h)⟩, fun _ _ h => (nomatch h)⟩
    · simp only [evalE, Res.bind_exc, need_exc] at ev
      rcases ev with ev | ⟨_, _, _, ev⟩
      · exact s1.exc y ev _ hQ
      · cases ev
/-! ### what a value is at the top -/
inductive Top (K : PySem.W.Frag) (H : Hp) : PV → V → Prop
  | non : Top K H .non .non
  | bl (b : Bool) : Top K H (.bl b) (.bl b)
  | int (i : Int) : Top K H (.int i) (.int i)
  | str (x : Str) : Top K H (.str x) (.str x)
  | tup {xs : List PV} {a : Addr} {ws : List V} : H a = some (.tup ws) → xs.length = ws.length → Top K H (.tup xs) (.ref a)
  | lst {xs : List PV} {a : Addr} {ws : List V} : Rd H a (.lst ws) → xs.length = ws.length → Top K H (.lst xs) (.ref a)
  | dct {t : Bool} {ks vs : List PV} {a : Addr} {u : HO} {ws : List V} : H a = some u → Dct t u ks ws → vs.length = ws.length → Top K H (.dct t ks vs) (.ref a)
theorem Rep.top {d : Nat} {v : PV} {w : V} {F : List Addr} (h : Rep K H Z d v w F) : Top K H v w := by
  cases h with
  | non => exact .non
  | bl b => exact .bl b
  | int i => exact .int i
  | str x => exact .str x
  | tup0 h1 h2 => exact .tup h1 h2.length
  | tupS h1 h2 => exact .tup h1 h2.length
  | lst0 h1 h2 => exact .lst h1.1 h2.length
  | lstS h1 h2 h3 => exact .lst (.of h1) h2.length
  | dct0 h1 h2 h3 h4 => exact .dct h1 h3 h4.length
  | dctS h1 h2 h3 h4 => exact .dct h1 h2 h3.length
theorem RepT.top {τ : Tp} {v : PV} {w : V} {F : List Addr} (h : RepT K H Z τ v w F) : Top K H v w := by
  cases τ with
  | cl => exact h.2.2.top
  | d n => exact Rep.top h
theorem emp_eq {α β : Type} {xs : List α} {ys : List β} (h : xs.length = ys.length) : xs.isEmpty = ys.isEmpty := by
  cases xs <;> cases ys <;> first | rfl | (simp at h)
theorem tru_top {v : PV} {w : V} {b : Bool} (h : Top K H v w) (e : truth v = .ok b) : TruV K w H b := by
  cases h with
  | non => cases e; exact rfl
  | bl c => cases e; exact rfl
  | int i =>
    cases e
    show decide (i ≠ 0) = (i != 0)
    rw [Bool.eq_iff_iff]; simp
  | str x =>
    obtain ⟨hz, e⟩ := need_ok.mp e
    cases e
    refine ⟨by rw [sizeLine_eq]; exact hz, ?_⟩
    rw [Bool.eq_iff_iff]; simp
  | tup h1 h2 => cases e; exact .inr (.inl ⟨_, .of h1, by rw [emp_eq h2]⟩)
  | lst h1 h2 => cases e; exact .inl ⟨_, .inl h1, by rw [emp_eq h2]⟩
  | dct h1 h2 h3 => exact nomatch e
end
end OI
set_option maxRecDepth 100000
set_option maxHeartbeats 4000000
/-! OI11: tests; not, and, or, if else. -/
namespace OI
open PySem PySem.Spec PyProof.Rows L2
section
variable {T : List FnA} {X : Cx} {K : PySem.W.Frag} {σ σ' : St} {S S' : ASt} {M : List Nat} {H : Hp} {Z : Addr → Prop}
structure SndTO (T : List FnA) (X : Cx) (G : Ctx) (ER : ERel) (W : WX) (e' : E) (e : Expr) (σ : St) (S : ASt) (Γ' : List Gt) : Prop where
  ok : ∀ v env' b, evalE G e' S.env = .ok (v, env') → truth v = .ok b → ∀ Q : Bool → Hp → Prop, (∀ S', Stepd X.K σ (tchE e') S env' Γ' S' → Q b S'.H) → WT X e σ S.H Q
  exc : ∀ x, evalE G e' S.env = .exc x → ∀ Q : Bool → Hp → Prop, XW ER W σ (tchE e') S x → WT X e σ S.H Q
def SndT (T : List FnA) (e' : E) : Prop := ∀ (X : Cx) (G : Ctx) (ER : ERel) (W : WX) (k : Nat), Good X T G ER W k → ∀ e : Expr, meE T X.N X.env.scope e' e = true →
    ∀ (σ : St) (S : ASt) (r : TR) (Γ' : List Gt), typE T e' S.G = some (r, Γ') → Ok X.K σ S → SndTO T X G ER W e' e σ S Γ'
theorem plainT_is {e : Expr} (h : plainT e = true) {env : PySem.Env} : ∀ whole, isTrue e env whole = (do let v ← whole; standAt e.pos; holding [v] (truthy v)) := by
  intro whole
  cases e <;> first | rfl | (simp [plainT] at h; done) | skip
  rename_i op a pos
  cases op <;> first | rfl | (simp [plainT] at h)
theorem sndt_of {e' : E} (h : SndE T e') (hp : ∀ N sc e, meE T N sc e' e = true → plainT e = true) : SndT T e' := by
  have ih := snd_iff.mp h
  intro X G ER W k g e he σ S r Γ' ht o
  have s := ih X G ER W k g e he σ S r Γ' ht o
  refine ⟨fun v env' b ev hb Q hQ => ?_, fun x ev Q hQ => ?_⟩
  · exact .of (pt_truth pe_we (plainT_is (hp _ _ _ he))) (s.ok v env' ev _ fun S1 w F g1 => ⟨b, tru_top g1.tmp.rep.top hb, hQ S1 g1.stepd⟩)
  · exact .of (pt_truth pe_we (plainT_is (hp _ _ _ he))) (s.exc x ev _ hQ)
theorem truth_exc {v x : PV} : truth v ≠ .exc x := by
  cases v <;> simp [truth, need]
  split <;> simp
theorem Stepd.after {S1 : ASt} {env' : Env} {Γ' : List Gt} {M1 M2 : List Nat} (h : Stp M1 S S1) (g : Stepd K σ M2 S1 env' Γ' S') (h1 : ∀ i ∈ M1, i ∈ M) (h2 : ∀ i ∈ M2, i ∈ M) : Stepd K σ M S env' Γ' S' :=
  ⟨g.env, g.g, (h.mono h1).trans (g.stp.mono h2), g.ok⟩
theorem Stepd.mono {M' : List Nat} {env' : Env} {Γ' : List Gt} (g : Stepd K σ M S env' Γ' S') (h : ∀ i ∈ M, i ∈ M') : Stepd K σ M' S env' Γ' S' := ⟨g.env, g.g, g.stp.mono h, g.ok⟩
/-! ### types of two ways -/
def convOk (r : TR) (τ : Tp) : Prop := r.1 = .cl ∨ ∃ n, r = (.d n, none) ∧ (τ = .d n ∨ τ = .d 0)
theorem joinT_ok {a b : TR} {τ : Tp} (h : joinT a b = some τ) : convOk a τ ∧ convOk b τ := by
  obtain ⟨a1, a2⟩ := a
  obtain ⟨b1, b2⟩ := b
  unfold joinT at h
  split at h
  · rename_i hc
    simp at hc
    exact ⟨.inl hc.1, .inl hc.2⟩
  · split at h
    · rename_i hu
      cases a1 with
      | cl =>
        cases b1 with
        | cl => exact ⟨.inl rfl, .inl rfl⟩
        | d m =>
          simp [useAt] at hu h
          exact ⟨.inl rfl, .inr ⟨m, by rw [hu], .inl h.symm⟩⟩
      | d n =>
        cases b1 with
        | cl =>
          simp [useAt] at hu h
          exact ⟨.inr ⟨n, by rw [hu], .inl h.symm⟩, .inl rfl⟩
        | d m =>
          simp [useAt] at hu h
          refine ⟨.inr ⟨n, by rw [hu.1], ?_⟩, .inr ⟨m, by rw [hu.2], ?_⟩⟩
          · split at h
            · exact .inl h.symm
            · exact .inr h.symm
          · split at h
            · rename_i e; subst e; exact .inl h.symm
            · exact .inr h.symm
    · cases h
theorem Got.conv {env' : Env} {Γ' : List Gt} {r : TR} {v : PV} {w : V} {F : List Addr} {τ : Tp} (c : convOk r τ) (g : Got K σ M S env' Γ' r v S' w F) : ∃ S2 F2, S2.H = S'.H ∧ Got K σ M S env' Γ' (τ, none) v S2 w F2 := by
  rcases c with c | ⟨n, rfl, rfl | rfl⟩
  · have rp := g.tmp.rep
    rw [c] at rp
    refine ⟨S', [], rfl, g.env, g.g, g.stp, g.ok, ⟨?_, fun _ _ _ h => (nomatch h), fun _ _ _ h => (nomatch h), fun _ h => (nomatch h)⟩, fun _ _ h => (nomatch h)⟩
    cases τ with
    | cl => exact ⟨rfl, rp.2.1, rp.2.2⟩
    | d n => exact rp.cl0.2 _ _
  · exact ⟨S', F, rfl, g⟩
  · exact ⟨S'.frz F, [], rfl, g.freeze⟩
/-! ### not -/
theorem Got.bl {env' : Env} {Γ' : List Gt} {b : Bool} (g : Stepd K σ M S env' Γ' S') : Got K σ M S env' Γ' (.cl, none) (.bl b) S' (.bl b) [] :=
  ⟨g.env, g.g, g.stp, g.ok, ⟨⟨rfl, ⟨1, rfl⟩, .bl b⟩, fun _ _ _ h => (nomatch h), fun _ _ _ h => (nomatch h), fun _ h => (nomatch h)⟩, fun _ _ h => (nomatch h)⟩
theorem snd_not {a : E} (h : SndE T a) : SndE T (.not a) := by
  have ih := snd_iff.mp h
  refine snd_iff.mpr fun X G ER W k g e he σ S r Γ' ht o => ?_
  cases e <;> simp only [meE, Bool.false_eq_true] at he
  rename_i op q pos
  cases op <;> simp only [Bool.false_eq_true] at he
  simp only [typE] at ht
  cases t1 : typE T a S.G with
  | none => simp [t1] at ht
  | some p1 =>
    obtain ⟨r1, Γ1⟩ := p1
    simp only [t1, Option.some.injEq, Prod.mk.injEq] at ht
    obtain ⟨rfl, rfl⟩ := ht
    have s1 := ih X G ER W k g q he σ S r1 Γ1 t1 o
    refine ⟨fun v env' ev Q hQ => ?_, fun y ev Q hQ => ?_⟩
    · simp only [evalE, Res.bind_ok] at ev
      obtain ⟨⟨v1, env1⟩, ev, b, hb, e2⟩ := ev
      cases e2
      exact .of (pe_notT pe_we) (s1.ok v1 _ ev _ fun S1 w F g1 => ⟨b, tru_top g1.tmp.rep.top hb, hQ S1 _ [] (Got.bl g1.stepd)⟩)
    · simp only [evalE, Res.bind_exc] at ev
      rcases ev with ev | ⟨_, _, ev | ⟨_, _, ev⟩⟩
      · exact .of (pe_notT pe_we) (s1.exc y ev _ hQ)
      · exact absurd ev truth_exc
      · cases ev
theorem sndt_not {a : E} (h : SndT T a) : SndT T (.not a) := by
  intro X G ER W k g e he σ S r Γ' ht o
  cases e <;> simp only [meE, Bool.false_eq_true] at he
  rename_i op q pos
  cases op <;> simp only [Bool.false_eq_true] at he
  simp only [typE] at ht
  cases t1 : typE T a S.G with
  | none => simp [t1] at ht
  | some p1 =>
    obtain ⟨r1, Γ1⟩ := p1
    simp only [t1, Option.some.injEq, Prod.mk.injEq] at ht
    obtain ⟨rfl, rfl⟩ := ht
    have s1 := h X G ER W k g q he σ S r1 Γ1 t1 o
    refine ⟨fun v env' b ev hb Q hQ => ?_, fun y ev Q hQ => ?_⟩
    · simp only [evalE, Res.bind_ok] at ev
      obtain ⟨⟨v1, env1⟩, ev, b1, hb1, e2⟩ := ev
      cases e2
      cases hb
      exact .of (pt_not pt_wt) (s1.ok v1 _ b1 ev hb1 _ fun S1 g1 => hQ S1 g1)
    · simp only [evalE, Res.bind_exc] at ev
      rcases ev with ev | ⟨_, _, ev | ⟨_, _, ev⟩⟩
      · exact .of (pt_not pt_wt) (s1.exc y ev _ hQ)
      · exact absurd ev truth_exc
      · cases ev
/-! ### and, or -/
theorem pw_bool {op : BoolOp} {es : List Expr} {pos : Pos} : PW X (.BoolOp op es pos) (WT X (.BoolOp op es pos)) := ⟨fun wh pins s σ H Q I h => h pins s I⟩
/-- what stands behind the first -/
abbrev restB (op : BoolOp) (r : Expr) (rs : List Expr) (pos : Pos) : Expr := match rs with | [] => r | _ => .BoolOp op (r :: rs) pos
theorem pw_rest {op : BoolOp} {r : Expr} {rs : List Expr} {pos : Pos} : PW X (.BoolOp op (r :: rs) pos) (WT X (restB op r rs pos)) := by
  cases rs with
  | nil =>
    cases op
    · exact pw_and1 pt_wt
    · exact pw_or1 pt_wt
  | cons c cs => exact pw_bool
theorem pe_rest {op : BoolOp} {r : Expr} {rs : List Expr} {pos : Pos} : PE X (.BoolOp op (r :: rs) pos) (WE X (restB op r rs pos)) := by
  cases rs with
  | nil => exact pe_one pe_we
  | cons c cs => exact pe_we
theorem me_and {N : List Str} {sc : Scope} {a b : E} {e : Expr} (he : meE T N sc (.and a b) e = true) : ∃ qa qb rs pos, e = .BoolOp .And (qa :: qb :: rs) pos ∧ meE T N sc a qa = true ∧ meE T N sc b (restB .And qb rs pos) = true := by
  cases e <;> simp only [meE, Bool.false_eq_true] at he
  rename_i op vs pos
  cases op with
  | Or => exact absurd he (by simp)
  | And =>
    match vs, he with
    | qa :: qb :: rs, he => exact ⟨qa, qb, rs, pos, rfl, Bool.and_eq_true_iff.mp he⟩
theorem me_or {N : List Str} {sc : Scope} {a b : E} {e : Expr} (he : meE T N sc (.or a b) e = true) : ∃ qa qb rs pos, e = .BoolOp .Or (qa :: qb :: rs) pos ∧ meE T N sc a qa = true ∧ meE T N sc b (restB .Or qb rs pos) = true := by
  cases e <;> simp only [meE, Bool.false_eq_true] at he
  rename_i op vs pos
  cases op with
  | And => exact absurd he (by simp)
  | Or =>
    match vs, he with
    | qa :: qb :: rs, he => exact ⟨qa, qb, rs, pos, rfl, Bool.and_eq_true_iff.mp he⟩
theorem snd_and {a b : E} (h1 : SndE T a) (h2 : SndE T b) : SndE T (.and a b) := by
  have iha := snd_iff.mp h1
  have ihb := snd_iff.mp h2
  refine snd_iff.mpr fun X G ER W k g e he σ S r Γ' ht o => ?_
  obtain ⟨qa, qb, rs, pos, rfl, he1, he2⟩ := me_and he
  simp only [typE] at ht
  cases t1 : typE T a S.G with
  | none => simp [t1] at ht
  | some p1 =>
    obtain ⟨r1, Γ1⟩ := p1
    simp only [t1] at ht
    cases t2 : typE T b Γ1 with
    | none => simp [t2] at ht
    | some p2 =>
      obtain ⟨r2, Γ2⟩ := p2
      simp only [t2] at ht
      split at ht
      · rename_i hΓ
        subst hΓ
        obtain ⟨τ, hj, e3⟩ := Option.map_eq_some_iff.mp ht
        cases e3
        obtain ⟨c1, c2⟩ := joinT_ok hj
        have s1 := iha X G ER W k g qa he1 σ S r1 _ t1 o
        have m1 : ∀ i ∈ tchE a, i ∈ tchE (.and a b) := fun i hi => by simp only [tchE]; exact List.mem_append_left _ hi
        have m2 : ∀ i ∈ tchE b, i ∈ tchE (.and a b) := fun i hi => by simp only [tchE]; exact List.mem_append_right _ hi
        refine ⟨fun v env' ev Q hQ => ?_, fun y ev Q hQ => ?_⟩
        · simp only [evalE, Res.bind_ok] at ev
          obtain ⟨⟨v1, env1⟩, ev, t, hb, e2⟩ := ev
          refine .of (pe_andT pe_we pe_rest) (s1.ok v1 _ ev _ fun S1 w F g1 => ⟨t, tru_top g1.tmp.rep.top hb, ?_⟩)
          cases t with
          | true =>
            rw [if_pos rfl] at e2 ⊢
            have s2 := ihb X G ER W k g _ he2 σ S1 r2 _ (by rw [g1.g]; exact t2) g1.ok
            refine s2.ok v env' (by rw [g1.env]; exact e2) _ fun S2 w2 F2 g2 => ?_
            obtain ⟨S3, F3, e4, g3⟩ := (Got.after g1.stp g2 m1 m2).conv c2
            rw [← e4]
            exact hQ S3 w2 F3 g3
          | false =>
            rw [if_neg (by decide)] at e2 ⊢
            cases e2
            obtain ⟨S3, F3, e4, g3⟩ := (g1.mono m1).conv c1
            rw [← e4]
            exact hQ S3 w F3 g3
        · simp only [evalE, Res.bind_exc, Res.bind_ok] at ev
          rcases ev with ev | ⟨⟨v1, env1⟩, ev, e2⟩
          · exact .of (pe_andT pe_we pe_rest) (s1.exc y ev _ (hQ.mono m1))
          · rcases e2 with e2 | ⟨t, hb, e2⟩
            · exact absurd e2 truth_exc
            · refine .of (pe_andT pe_we pe_rest) (s1.ok v1 _ ev _ fun S1 w F g1 => ⟨t, tru_top g1.tmp.rep.top hb, ?_⟩)
              cases t with
              | true =>
                rw [if_pos rfl] at e2 ⊢
                have s2 := ihb X G ER W k g _ he2 σ S1 r2 _ (by rw [g1.g]; exact t2) g1.ok
                exact s2.exc y (by rw [g1.env]; exact e2) _ (hQ.step (g1.stp.mono m1) m2)
              | false =>
                rw [if_neg (by decide)] at e2
                cases e2
      · cases ht
theorem sndt_and {a b : E} (h1 : SndT T a) (h2 : SndT T b) : SndT T (.and a b) := by
  intro X G ER W k g e he σ S r Γ' ht o
  obtain ⟨qa, qb, rs, pos, rfl, he1, he2⟩ := me_and he
  simp only [typE] at ht
  cases t1 : typE T a S.G with
  | none => simp [t1] at ht
  | some p1 =>
    obtain ⟨r1, Γ1⟩ := p1
    simp only [t1] at ht
    cases t2 : typE T b Γ1 with
    | none => simp [t2] at ht
    | some p2 =>
      obtain ⟨r2, Γ2⟩ := p2
      simp only [t2] at ht
      split at ht
      · rename_i hΓ
        subst hΓ
        obtain ⟨τ, hj, e3⟩ := Option.map_eq_some_iff.mp ht
        cases e3
        have s1 := h1 X G ER W k g qa he1 σ S r1 _ t1 o
        have m1 : ∀ i ∈ tchE a, i ∈ tchE (.and a b) := fun i hi => by simp only [tchE]; exact List.mem_append_left _ hi
        have m2 : ∀ i ∈ tchE b, i ∈ tchE (.and a b) := fun i hi => by simp only [tchE]; exact List.mem_append_right _ hi
        have pp : PT X (.BoolOp .And (qa :: qb :: rs) pos) _ := (pw_and pt_wt pw_rest).pt
        refine ⟨fun v env' c ev hc Q hQ => ?_, fun y ev Q hQ => ?_⟩
        · simp only [evalE, Res.bind_ok] at ev
          obtain ⟨⟨v1, env1⟩, ev, t, hb, e2⟩ := ev
          refine .of pp (s1.ok v1 _ t ev hb _ fun S1 g1 => ?_)
          cases t with
          | true =>
            rw [if_pos rfl] at e2 ⊢
            have s2 := h2 X G ER W k g _ he2 σ S1 r2 _ (by rw [g1.g]; exact t2) g1.ok
            exact s2.ok v env' c (by rw [g1.env]; exact e2) hc _ fun S2 g2 => hQ S2 (Stepd.after g1.stp g2 m1 m2)
          | false =>
            rw [if_neg (by decide)] at e2 ⊢
            cases e2
            rw [hb] at hc
            cases hc
            exact hQ S1 (g1.mono m1)
        · simp only [evalE, Res.bind_exc, Res.bind_ok] at ev
          rcases ev with ev | ⟨⟨v1, env1⟩, ev, e2⟩
          · exact .of pp (s1.exc y ev _ (hQ.mono m1))
          · rcases e2 with e2 | ⟨t, hb, e2⟩
            · exact absurd e2 truth_exc
            · refine .of pp (s1.ok v1 _ t ev hb _ fun S1 g1 => ?_)
              cases t with
              | true =>
                rw [if_pos rfl] at e2 ⊢
                have s2 := h2 X G ER W k g _ he2 σ S1 r2 _ (by rw [g1.g]; exact t2) g1.ok
                exact s2.exc y (by rw [g1.env]; exact e2) _ (hQ.step (g1.stp.mono m1) m2)
              | false =>
                rw [if_neg (by decide)] at e2
                cases e2
      · cases ht
theorem snd_or {a b : E} (h1 : SndE T a) (h2 : SndE T b) : SndE T (.or a b) := by
  have iha := snd_iff.mp h1
  have ihb := snd_iff.mp h2
  refine snd_iff.mpr fun X G ER W k g e he σ S r Γ' ht o => ?_
  obtain ⟨qa, qb, rs, pos, rfl, he1, he2⟩ := me_or he
  simp only [typE] at ht
  cases t1 : typE T a S.G with
  | none => simp [t1] at ht
  | some p1 =>
    obtain ⟨r1, Γ1⟩ := p1
    simp only [t1] at ht
    cases t2 : typE T b Γ1 with
    | none => simp [t2] at ht
    | some p2 =>
      obtain ⟨r2, Γ2⟩ := p2
      simp only [t2] at ht
      split at ht
      · rename_i hΓ
        subst hΓ
        obtain ⟨τ, hj, e3⟩ := Option.map_eq_some_iff.mp ht
        cases e3
        obtain ⟨c1, c2⟩ := joinT_ok hj
        have s1 := iha X G ER W k g qa he1 σ S r1 _ t1 o
        have m1 : ∀ i ∈ tchE a, i ∈ tchE (.or a b) := fun i hi => by simp only [tchE]; exact List.mem_append_left _ hi
        have m2 : ∀ i ∈ tchE b, i ∈ tchE (.or a b) := fun i hi => by simp only [tchE]; exact List.mem_append_right _ hi
        refine ⟨fun v env' ev Q hQ => ?_, fun y ev Q hQ => ?_⟩
        · simp only [evalE, Res.bind_ok] at ev
          obtain ⟨⟨v1, env1⟩, ev, t, hb, e2⟩ := ev
          refine .of (pe_orT pe_we pe_rest) (s1.ok v1 _ ev _ fun S1 w F g1 => ⟨t, tru_top g1.tmp.rep.top hb, ?_⟩)
          cases t with
          | false =>
            rw [if_neg (by decide)] at e2 ⊢
            have s2 := ihb X G ER W k g _ he2 σ S1 r2 _ (by rw [g1.g]; exact t2) g1.ok
            refine s2.ok v env' (by rw [g1.env]; exact e2) _ fun S2 w2 F2 g2 => ?_
            obtain ⟨S3, F3, e4, g3⟩ := (Got.after g1.stp g2 m1 m2).conv c2
            rw [← e4]
            exact hQ S3 w2 F3 g3
          | true =>
            rw [if_pos rfl] at e2 ⊢
            cases e2
            obtain ⟨S3, F3, e4, g3⟩ := (g1.mono m1).conv c1
            rw [← e4]
            exact hQ S3 w F3 g3
        · simp only [evalE, Res.bind_exc, Res.bind_ok] at ev
          rcases ev with ev | ⟨⟨v1, env1⟩, ev, e2⟩
          · exact .of (pe_orT pe_we pe_rest) (s1.exc y ev _ (hQ.mono m1))
          · rcases e2 with e2 | ⟨t, hb, e2⟩
            · exact absurd e2 truth_exc
            · refine .of (pe_orT pe_we pe_rest) (s1.ok v1 _ ev _ fun S1 w F g1 => ⟨t, tru_top g1.tmp.rep.top hb, ?_⟩)
              cases t with
              | false =>
                rw [if_neg (by decide)] at e2 ⊢
                have s2 := ihb X G ER W k g _ he2 σ S1 r2 _ (by rw [g1.g]; exact t2) g1.ok
                exact s2.exc y (by rw [g1.env]; exact e2) _ (hQ.step (g1.stp.mono m1) m2)
              | true =>
                rw [if_pos rfl] at e2
                cases e2
      · cases ht
theorem sndt_or {a b : E} (h1 : SndT T a) (h2 : SndT T b) : SndT T (.or a b) := by
  intro X G ER W k g e he σ S r Γ' ht o
  obtain ⟨qa, qb, rs, pos, rfl, he1, he2⟩ := me_or he
  simp only [typE] at ht
  cases t1 : typE T a S.G with
  | none => simp [t1] at ht
  | some p1 =>
    obtain ⟨r1, Γ1⟩ := p1
    simp only [t1] at ht
    cases t2 : typE T b Γ1 with
    | none => simp [t2] at ht
    | some p2 =>
      obtain ⟨r2, Γ2⟩ := p2
      simp only [t2] at ht
      split at ht
      · rename_i hΓ
        subst hΓ
        obtain ⟨τ, hj, e3⟩ := Option.map_eq_some_iff.mp ht
        cases e3
        have s1 := h1 X G ER W k g qa he1 σ S r1 _ t1 o
        have m1 : ∀ i ∈ tchE a, i ∈ tchE (.or a b) := fun i hi => by simp only [tchE]; exact List.mem_append_left _ hi
        have m2 : ∀ i ∈ tchE b, i ∈ tchE (.or a b) := fun i hi => by simp only [tchE]; exact List.mem_append_right _ hi
        have pp : PT X (.BoolOp .Or (qa :: qb :: rs) pos) _ := (pw_or pt_wt pw_rest).pt
        refine ⟨fun v env' c ev hc Q hQ => ?_, fun y ev Q hQ => ?_⟩
        · simp only [evalE, Res.bind_ok] at ev
          obtain ⟨⟨v1, env1⟩, ev, t, hb, e2⟩ := ev
          refine .of pp (s1.ok v1 _ t ev hb _ fun S1 g1 => ?_)
          cases t with
          | false =>
            rw [if_neg (by decide)] at e2 ⊢
            have s2 := h2 X G ER W k g _ he2 σ S1 r2 _ (by rw [g1.g]; exact t2) g1.ok
            exact s2.ok v env' c (by rw [g1.env]; exact e2) hc _ fun S2 g2 => hQ S2 (Stepd.after g1.stp g2 m1 m2)
          | true =>
            rw [if_pos rfl] at e2 ⊢
            cases e2
            rw [hb] at hc
            cases hc
            exact hQ S1 (g1.mono m1)
        · simp only [evalE, Res.bind_exc, Res.bind_ok] at ev
          rcases ev with ev | ⟨⟨v1, env1⟩, ev, e2⟩
          · exact .of pp (s1.exc y ev _ (hQ.mono m1))
          · rcases e2 with e2 | ⟨t, hb, e2⟩
            · exact absurd e2 truth_exc
            · refine .of pp (s1.ok v1 _ t ev hb _ fun S1 g1 => ?_)
              cases t with
              | false =>
                rw [if_neg (by decide)] at e2 ⊢
                have s2 := h2 X G ER W k g _ he2 σ S1 r2 _ (by rw [g1.g]; exact t2) g1.ok
                exact s2.exc y (by rw [g1.env]; exact e2) _ (hQ.step (g1.stp.mono m1) m2)
              | true =>
                rw [if_pos rfl] at e2
                cases e2
      · cases ht
end
end OI
set_option maxRecDepth 100000
set_option maxHeartbeats 4000000
/-! OI12: data, keys. -/
namespace OI
open PySem PySem.Spec PyProof.Rows L2
theorem toDs_any {f : PyData → Bool} : ∀ xs : List PV, (toDs xs).any f = xs.any fun x => f (toD x)
  | [] => by simp [toDs]
  | x :: xs => by simp [toDs, toDs_any xs]
section
variable {X : Cx} {K : PySem.W.Frag} {H : Hp} {Z : Addr → Prop}
mutual
theorem dp_of : ∀ (n : Nat) (v : PV) {d : Nat} {w : V} {F : List Addr}, shp n v = true → Rep K H Z d v w F → Dp K H w (toD v)
  | 0, _, _, _, _, c, _ => by simp [shp] at c
  | n + 1, v, d, w, F, c, h => by
    cases h with
    | non => exact .non
    | bl b => exact .bl b
    | int i => exact .int i
    | str x => exact .str x
    | tup0 h1 h2 => rw [toD]; exact .tup (.of h1) (dps_of n _ (by simpa [shp] using c) h2)
    | tupS h1 h2 => rw [toD]; exact .tup (.of h1) (dps_of n _ (by simpa [shp] using c) h2)
    | lst0 h1 h2 => rw [toD]; exact .lst (.inl h1.1) (dps_of n _ (by simpa [shp] using c) h2)
    | lstS h1 h2 h3 => rw [toD]; exact .lst (.inl (.of h1)) (dps_of n _ (by simpa [shp] using c) h2)
    | dct0 h1 h2 h3 h4 => simp [shp] at c
    | dctS h1 h2 h3 h4 => simp [shp] at c
theorem dps_of : ∀ (n : Nat) (vs : List PV) {d : Nat} {ws : List V} {F : List Addr}, (∀ v ∈ vs, shp n v = true) → Reps K H Z d vs ws F → DpAll K H ws (toDs vs)
  | n, [], _, _, _, _, h => by cases h; exact .nil
  | n, v :: vs, _, _, _, c, h => by
    cases h with
    | cons h1 h2 h3 => exact .cons (dp_of n v (c v List.mem_cons_self) h1) (dps_of n vs (fun u hu => c u (List.mem_cons_of_mem _ hu)) h2)
end
theorem dp_t {n : Nat} {v : PV} {w : V} {F : List Addr} {τ : Tp} (c : shp n v = true) (h : RepT K H Z τ v w F) : Dp K H w (toD v) := by
  cases τ with
  | cl => exact dp_of n v c h.2.2
  | d m => exact dp_of n v c h
mutual
theorem lay_of : ∀ (n : Nat) (v : PV), shp n v = true → PyData.canLay0 (toD v) = true ∧ PyData.depth (toD v) ≤ n
  | 0, _, c => by simp [shp] at c
  | n + 1, v, c => by
    cases v with
    | non => simp [toD, PyData.canLay0, PyData.depth]
    | bl b => simp [toD, PyData.canLay0, PyData.depth]
    | int b => simp [toD, PyData.canLay0, PyData.depth]
    | str x => simp only [toD, PyData.canLay0, PyData.depth]; exact ⟨c, by omega⟩
    | tup xs =>
      obtain ⟨a, b⟩ := lays_of n xs (by simpa [shp] using c)
      simp only [toD, PyData.canLay0, PyData.depth]
      exact ⟨a, by omega⟩
    | lst xs =>
      obtain ⟨a, b⟩ := lays_of n xs (by simpa [shp] using c)
      simp only [toD, PyData.canLay0, PyData.depth]
      exact ⟨a, by omega⟩
    | dct t ks vs => simp [shp] at c
    | it xs => simp [shp] at c
    | exc a b => simp [shp] at c
theorem lays_of : ∀ (n : Nat) (vs : List PV), (∀ v ∈ vs, shp n v = true) → PyData.canLayAll0 (toDs vs) = true ∧ PyData.depthAll (toDs vs) ≤ n
  | n, [], _ => by simp [toDs, PyData.canLayAll0, PyData.depthAll]
  | n, v :: vs, c => by
    obtain ⟨a, b⟩ := lay_of n v (c v List.mem_cons_self)
    obtain ⟨a', b'⟩ := lays_of n vs fun u hu => c u (List.mem_cons_of_mem _ hu)
    simp only [toDs, PyData.canLayAll0, PyData.depthAll, a, a', Bool.and_self, true_and]
    omega
end
mutual
theorem eqv_of : ∀ (n m : Nat) (a b : PV), shp n a = true → shp m b = true → PyData.eqv (toD a) (toD b) = eqP a b
  | 0, _, _, _, c, _ => by simp [shp] at c
  | _ + 1, 0, _, _, _, c => by simp [shp] at c
  | n + 1, m + 1, a, b, c, c' => by
    cases a <;> cases b <;> first
      | (simp [shp] at c; done)
      | (simp [shp] at c'; done)
      | (simp only [toD, PyData.eqv, eqP]; done)
      | (simp only [toD, PyData.eqv, eqP]; exact eqvs_of n m _ _ (by simpa [shp] using c) (by simpa [shp] using c'))
theorem eqvs_of : ∀ (n m : Nat) (a b : List PV), (∀ v ∈ a, shp n v = true) → (∀ v ∈ b, shp m v = true) → PyData.eqvAll (toDs a) (toDs b) = eqPs a b
  | n, m, [], [], _, _ => by simp [toDs, PyData.eqvAll, eqPs]
  | n, m, [], b :: bs, _, _ => by simp [toDs, PyData.eqvAll, eqPs]
  | n, m, a :: as, [], _, _ => by simp [toDs, PyData.eqvAll, eqPs]
  | n, m, a :: as, b :: bs, c, c' => by
    simp only [toDs, PyData.eqvAll, eqPs]
    rw [eqv_of n m a b (c a List.mem_cons_self) (c' b List.mem_cons_self), eqvs_of n m as bs (fun u hu => c u (List.mem_cons_of_mem _ hu)) fun u hu => c' u (List.mem_cons_of_mem _ hu)]
end
theorem shaped_of {n : Nat} (hn : n ≤ 64) {v : PV} (c : shp n v = true) : SeqAt.shaped (toD v) = true := by
  obtain ⟨a, b⟩ := lay_of n v c
  show (PyData.canLay0 _ && decide (_ ≤ 64)) = true
  rw [a, Bool.true_and]
  exact decide_eq_true (by omega)
/-! ### keys -/
theorem pk1_of {k : PV} {d : Nat} {w : V} {F : List Addr} (c : isKey1 k = true) (h : Rep K H Z d k w F) : ∃ κ, PK1 k κ ∧ w = kV κ := by
  cases h with
  | int i => exact ⟨_, .int i, rfl⟩
  | str i => exact ⟨_, .str i, rfl⟩
  | _ => simp [isKey1] at c
theorem pks1_of {d : Nat} : ∀ {ks : List PV} {ws : List V} {F : List Addr}, ks.all isKey1 = true → Reps K H Z d ks ws F → ∃ κs, PKs1 ks κs ∧ ws = κs.map kV
  | [], _, _, _, h => by cases h; exact ⟨[], .nil, rfl⟩
  | k :: ks, _, _, c, h => by
    simp only [List.all_cons, Bool.and_eq_true] at c
    cases h with
    | cons h1 h2 h3 =>
      obtain ⟨κ, p, e⟩ := pk1_of c.1 h1
      obtain ⟨κs, ps, es⟩ := pks1_of c.2 h2
      exact ⟨κ :: κs, .cons p ps, by rw [e, es]; rfl⟩
theorem pk1_eq {a b : PV} {κ κ' : Key} (h : PK1 a κ) (h' : PK1 b κ') : eqP a b = decide (κ = κ') := by
  cases h <;> cases h' <;> simp [eqP] <;> rw [Bool.eq_iff_iff] <;> simp
theorem pks1_eq : ∀ {a b : List PV} {κ κ' : List Key}, PKs1 a κ → PKs1 b κ' → eqPs a b = decide (κ = κ')
  | [], [], _, _, h, h' => by cases h; cases h'; simp [eqPs]
  | [], _ :: _, _, _, h, h' => by cases h; cases h'; simp [eqPs]
  | _ :: _, [], _, _, h, h' => by cases h; cases h'; simp [eqPs]
  | a :: as, b :: bs, _, _, h, h' => by
    cases h with
    | cons h1 h2 =>
      cases h' with
      | cons h3 h4 =>
        simp only [eqPs, pk1_eq h1 h3, pks1_eq h2 h4]
        rw [Bool.eq_iff_iff]; simp
theorem pkt_eq {a b : PV} {κ κ' : List Key} (h : PKt a κ) (h' : PKt b κ') : eqP a b = decide (κ = κ') := by
  cases h with
  | tup h => cases h' with
    | tup h' => simp only [eqP]; exact pks1_eq h h'
/-- where the key stands -/
def fndP (k : PV) : List PV → Option Nat
  | [] => none
  | q :: qs => if eqP q k = true then some 0 else (fndP k qs).map (· + 1)
theorem lookP_fnd {k : PV} : ∀ {ks vs : List PV}, ks.length = vs.length → lookP k ks vs = (fndP k ks).bind fun i => vs[i]?
  | [], [], _ => by simp [lookP, fndP]
  | q :: qs, v :: vs, h => by
    simp only [lookP, fndP]
    by_cases e : eqP q k = true
    · simp [e]
    · rw [if_neg e, if_neg e, lookP_fnd (by simpa using h)]
      cases fndP k qs <;> simp
theorem fndP_lt {k : PV} : ∀ {ks : List PV} {i : Nat}, fndP k ks = some i → i < ks.length
  | [], _, h => by simp [fndP] at h
  | q :: qs, i, h => by
    simp only [fndP] at h
    split at h
    · cases h; simp
    · obtain ⟨j, hj, rfl⟩ := Option.map_eq_some_iff.mp h
      have := fndP_lt hj
      simp; omega
theorem valV_fnd {κ : Type} [DecidableEq κ] {R : PV → κ → Prop} {k : PV} {q : κ} (hR : ∀ a b, R a b → eqP a k = decide (b = q)) : ∀ {kvs : List (κ × V)} {ks : List PV}, Paired R ks (kvs.map (·.1)) → valV kvs q = (fndP k ks).bind fun i => (kvs.map (·.2))[i]?
  | [], ks, h => by cases h; simp [valV, fndP]
  | p :: kvs, ks, h => by
    cases h with
    | @cons a _ as _ h1 h2 =>
      have e := hR _ _ h1
      by_cases c : p.1 = q
      · rw [valV_pos c]
        simp [fndP, e, c]
      · rw [valV_neg c, valV_fnd hR h2]
        simp only [fndP, e]
        rw [if_neg (by simp [c])]
        cases fndP k as <;> simp
/-- what a dict holds at a key -/
theorem dget_of {t : Bool} {u : HO} {ks : List PV} {ws : List V} {a : Addr} {k : PV} {d : Nat} {y : V} {F : List Addr} (hd : Dct t u ks ws) (hr : Rd H a u) (c : isKey t k = true) (h : Rep K H Z d k y F) :
    DGet H a y ((fndP k ks).bind fun i => ws[i]?) := by
  cases hd with
  | k h1 h2 =>
    obtain ⟨κ, p, rfl⟩ := pk1_of (by cases k <;> exact c) h
    exact .inl ⟨_, κ, hr, rfl, (valV_fnd (fun _ _ q => pk1_eq q p) h1).symm⟩
  | t h1 h2 =>
    cases h <;> simp only [isKey, Bool.false_eq_true] at c
    all_goals
      rename_i h3 h4
      obtain ⟨κs, ps, rfl⟩ := pks1_of c h4
      exact .inr ⟨_, κs, _, hr, rfl, h3, (valV_fnd (fun _ _ q => pkt_eq q (.tup ps)) h1).symm⟩
theorem Dct.lens {t : Bool} {u : HO} {ks : List PV} {ws : List V} (h : Dct t u ks ws) : ks.length = ws.length := by
  cases h with
  | k h1 h2 => have := Paired.length h1; simpa using this
  | t h1 h2 => have := Paired.length h1; simpa using this
theorem bind_some_eq {k : PV} {ks vs : List PV} {ws : List V} (h : ks.length = ws.length) (h' : vs.length = ws.length) : ((fndP k ks).bind fun i => vs[i]?).isSome = ((fndP k ks).bind fun i => ws[i]?).isSome := by
  cases e : fndP k ks with
  | none => rfl
  | some i =>
    have := fndP_lt e
    show (vs[i]?).isSome = (ws[i]?).isSome
    rw [List.getElem?_eq_getElem (show i < ws.length by omega), List.getElem?_eq_getElem (show i < vs.length by omega)]
    rfl
/-! ### comparisons -/
def Cmp2 (X : Cx) (f : Value → Value → Sem Value) (H : Hp) (c : Bool) (x y : V) : Prop := ∃ r, OpR X f r ∧ ∀ Q : VK, Q (.bl c) H → r x y H Q
theorem op_inT (hu : X.A.units + 65 < cLine) : OpR X (compareOp .In) (fun x y H Q => ∃ d ds, Dp X.K H x d ∧ Dp X.K H y (.tuple ds) ∧ SeqAt.shaped d = true ∧ PyData.canLayAll0 ds = true ∧ Q (.bl (ds.any fun z => PyData.eqv z d)) H) := by
  intro pins s σ H x y v u Q I rx ry h
  obtain ⟨d, ds, hd, he, sd, se, q⟩ := h
  obtain ⟨as, r1⟩ := Dp.reads I d x v hd rx
  obtain ⟨bs, r2⟩ := Dp.reads I (.tuple ds) y u he ry
  exact SeqAt.in_tuple_reads r2 r1 se (SeqAt.canLay_of_shaped sd) (room_in_shaped sd hu) ⟨.bl _, H, I, rfl, q⟩
theorem op_notInT (hu : X.A.units + 65 < cLine) : OpR X (compareOp .NotIn) (fun x y H Q => ∃ d ds, Dp X.K H x d ∧ Dp X.K H y (.tuple ds) ∧ SeqAt.shaped d = true ∧ PyData.canLayAll0 ds = true ∧ Q (.bl (!ds.any fun z => PyData.eqv z d)) H) := by
  intro pins s σ H x y v u Q I rx ry h
  obtain ⟨d, ds, hd, he, sd, se, q⟩ := h
  obtain ⟨as, r1⟩ := Dp.reads I d x v hd rx
  obtain ⟨bs, r2⟩ := Dp.reads I (.tuple ds) y u he ry
  exact SeqAt.notIn_tuple_reads r2 r1 se (SeqAt.canLay_of_shaped sd) (room_in_shaped sd hu) ⟨.bl _, H, I, rfl, q⟩
theorem op_dIn (hu : X.A.units + 1 < cLine) : OpR X (compareOp .In) (fun x y H Q => ∃ a o, y = .ref a ∧ DGet H a x o ∧ Q (.bl o.isSome) H) := by
  intro pins s σ H x y v u Q I rx ry h
  obtain ⟨a, o, rfl, g, q⟩ := h
  cases ry
  exact d_in hu I g rx fun s' I' => ⟨.bl _, H, I', rfl, q⟩
theorem op_dNotIn (hu : X.A.units + 1 < cLine) : OpR X (compareOp .NotIn) (fun x y H Q => ∃ a o, y = .ref a ∧ DGet H a x o ∧ Q (.bl (!o.isSome)) H) := by
  intro pins s σ H x y v u Q I rx ry h
  obtain ⟨a, o, rfl, g, q⟩ := h
  cases ry
  exact d_notIn hu I g rx fun s' I' => ⟨.bl _, H, I', rfl, q⟩
theorem RepT.any {τ : Tp} {v : PV} {w : V} {F : List Addr} (h : RepT K H Z τ v w F) : ∃ d F', Rep K H Z d v w F' := by
  cases τ with
  | cl => exact ⟨0, [], h.2.2⟩
  | d m => exact ⟨m, F, h⟩
theorem any_eq {xs : List PV} {v : PV} (hx : xs.all shp0 = true) (hv : shp0 v = true) : ((toDs xs).any fun z => PyData.eqv z (toD v)) = xs.any (eqP · v) := by
  rw [toDs_any]
  induction xs with
  | nil => rfl
  | cons x xs ih =>
    simp only [List.all_cons, Bool.and_eq_true] at hx
    simp only [List.any_cons, ih hx.2, eqv_of _ _ x v hx.1 hv]
theorem cmp_val {op : CmpOp} {a b : PV} {x y : V} {c : Bool} {τ τ' : Tp} {F F' : List Addr} (hu : X.A.units + 65 < cLine) (hv : cmpP op a b = .ok c) (ha : RepT X.K H Z τ a x F) (hb : RepT X.K H Z τ' b y F') : Cmp2 X (compareOp op) H c x y := by
  obtain ⟨d, F1, ra⟩ := ha.any
  obtain ⟨d', F2, rb⟩ := hb.any
  have h64 : X.A.units + 64 < cLine := by omega
  have h1 : X.A.units + 1 < cLine := by omega
  cases op
  · -- Eq
    simp only [cmpP] at hv
    obtain ⟨⟨s1, s2⟩, hv⟩ := need_ok.mp hv
    cases hv
    exact ⟨_, op_eqD h64, fun Q q => ⟨_, _, dp_of _ _ s1 ra, dp_of _ _ s2 rb, shaped_of (by decide) s1, shaped_of (by decide) s2, by rw [eqv_of _ _ _ _ s1 s2]; exact q⟩⟩
  · simp only [cmpP] at hv
    obtain ⟨⟨s1, s2⟩, hv⟩ := need_ok.mp hv
    cases hv
    exact ⟨_, op_neD h64, fun Q q => ⟨_, _, dp_of _ _ s1 ra, dp_of _ _ s2 rb, shaped_of (by decide) s1, shaped_of (by decide) s2, by rw [eqv_of _ _ _ _ s1 s2]; exact q⟩⟩
  · cases a <;> cases b <;> simp only [cmpP, reduceCtorEq] at hv
    cases hv
    cases ra
    cases rb
    exact ⟨_, op_lt, fun Q q => ⟨_, _, rfl, rfl, q⟩⟩
  · cases a <;> cases b <;> simp only [cmpP, reduceCtorEq] at hv
    cases hv
    cases ra
    cases rb
    exact ⟨_, op_le, fun Q q => ⟨_, _, rfl, rfl, q⟩⟩
  · cases a <;> cases b <;> simp only [cmpP, reduceCtorEq] at hv
    cases hv
    cases ra
    cases rb
    exact ⟨_, op_gt, fun Q q => ⟨_, _, rfl, rfl, q⟩⟩
  · cases a <;> cases b <;> simp only [cmpP, reduceCtorEq] at hv
    cases hv
    cases ra
    cases rb
    exact ⟨_, op_ge, fun Q q => ⟨_, _, rfl, rfl, q⟩⟩
  · cases b <;> simp only [cmpP, reduceCtorEq] at hv
    cases rb
    refine ⟨_, op_isN, fun Q q => ⟨rfl, ?_⟩⟩
    cases ra <;> cases hv <;> simpa using q
  · cases b <;> simp only [cmpP, reduceCtorEq] at hv
    cases rb
    refine ⟨_, op_notN, fun Q q => ⟨rfl, ?_⟩⟩
    cases ra <;> cases hv <;> simpa using q
  · -- In
    cases b with
    | dct t ks vs =>
      have hv : need (isKey t a = true) (.ok (lookP a ks vs).isSome) = .ok c := by cases a <;> exact hv
      obtain ⟨hk, hv⟩ := need_ok.mp hv
      cases hv
      have fin : ∀ {u : HO} {ws : List V} {p : Addr}, Rd H p u → Dct t u ks ws → vs.length = ws.length → Cmp2 X (compareOp .In) H (lookP a ks vs).isSome x (.ref p) := fun h1 h2 h3 => by
        refine ⟨_, op_dIn (by omega), fun Q q => ⟨_, _, rfl, dget_of h2 h1 hk ra, ?_⟩⟩
        rw [lookP_fnd (h2.lens.trans h3.symm), bind_some_eq h2.lens h3] at q
        exact q
      cases rb with
      | dct0 h1 h2 h3 h4 => exact fin (.of h1) h3 h4.length
      | dctS h1 h2 h3 h4 => exact fin (.of h1) h2 h3.length
    | tup xs =>
      have hv : need (shp0 a = true ∧ xs.all shp0 = true) (.ok (xs.any (eqP · a))) = .ok c := by cases a <;> exact hv
      obtain ⟨⟨s1, s2⟩, hv⟩ := need_ok.mp hv
      cases hv
      have e : shp 61 (.tup xs) = true := by simpa [shp] using s2
      refine ⟨_, op_inT hu, fun Q q => ⟨_, _, dp_of _ _ s1 ra, dp_of _ _ e rb, shaped_of (by decide) s1, (lays_of 60 xs (by simpa using s2)).1, ?_⟩⟩
      rw [any_eq s2 s1]; exact q
    | lst xs =>
      have hv : need (shp0 a = true ∧ xs.all shp0 = true) (.ok (xs.any (eqP · a))) = .ok c := by cases a <;> exact hv
      obtain ⟨⟨s1, s2⟩, hv⟩ := need_ok.mp hv
      cases hv
      have e : shp 61 (.lst xs) = true := by simpa [shp] using s2
      have e2 := shaped_of (n := 61) (by decide) e
      refine ⟨_, op_inD hu, fun Q q => ⟨_, _, dp_of _ _ s1 ra, dp_of _ _ e rb, shaped_of (by decide) s1, e2, ?_⟩⟩
      rw [any_eq s2 s1]; exact q
    | str z =>
      cases a with
      | str w =>
        simp only [cmpP] at hv
        obtain ⟨hl, hv⟩ := need_ok.mp hv
        cases hv
        cases ra
        cases rb
        refine ⟨_, op_in_sign, fun Q q => ⟨w.cps.getD 0 0, z, ?_, rfl, q⟩⟩
        obtain ⟨cps⟩ := w
        have hl : cps.size = 1 := hl
        congr 1
        congr 1
        apply Array.ext
        · simp [hl]
        · intro i h1 h2
          have e : i = 0 := by omega
          subst e
          simp [Array.getD, hl]
      | _ => exact nomatch hv
    | _ => cases a <;> exact nomatch hv
  · -- NotIn
    cases b with
    | dct t ks vs =>
      have hv : need (isKey t a = true) (.ok (!(lookP a ks vs).isSome)) = .ok c := by cases a <;> exact hv
      obtain ⟨hk, hv⟩ := need_ok.mp hv
      cases hv
      have fin : ∀ {u : HO} {ws : List V} {p : Addr}, Rd H p u → Dct t u ks ws → vs.length = ws.length → Cmp2 X (compareOp .NotIn) H (!(lookP a ks vs).isSome) x (.ref p) := fun h1 h2 h3 => by
        refine ⟨_, op_dNotIn (by omega), fun Q q => ⟨_, _, rfl, dget_of h2 h1 hk ra, ?_⟩⟩
        rw [lookP_fnd (h2.lens.trans h3.symm), bind_some_eq h2.lens h3] at q
        exact q
      cases rb with
      | dct0 h1 h2 h3 h4 => exact fin (.of h1) h3 h4.length
      | dctS h1 h2 h3 h4 => exact fin (.of h1) h2 h3.length
    | tup xs =>
      have hv : need (shp0 a = true ∧ xs.all shp0 = true) (.ok (!xs.any (eqP · a))) = .ok c := by cases a <;> exact hv
      obtain ⟨⟨s1, s2⟩, hv⟩ := need_ok.mp hv
      cases hv
      have e : shp 61 (.tup xs) = true := by simpa [shp] using s2
      refine ⟨_, op_notInT hu, fun Q q => ⟨_, _, dp_of _ _ s1 ra, dp_of _ _ e rb, shaped_of (by decide) s1, (lays_of 60 xs (by simpa using s2)).1, ?_⟩⟩
      rw [any_eq s2 s1]; exact q
    | lst xs =>
      have hv : need (shp0 a = true ∧ xs.all shp0 = true) (.ok (!xs.any (eqP · a))) = .ok c := by cases a <;> exact hv
      obtain ⟨⟨s1, s2⟩, hv⟩ := need_ok.mp hv
      cases hv
      have e : shp 61 (.lst xs) = true := by simpa [shp] using s2
      have e2 := shaped_of (n := 61) (by decide) e
      refine ⟨_, op_notInD hu, fun Q q => ⟨_, _, dp_of _ _ s1 ra, dp_of _ _ e rb, shaped_of (by decide) s1, e2, ?_⟩⟩
      rw [any_eq s2 s1]; exact q
    | str z =>
      cases a with
      | str w =>
        simp only [cmpP] at hv
        obtain ⟨hl, hv⟩ := need_ok.mp hv
        cases hv
        cases ra
        cases rb
        refine ⟨_, op_notIn_sign, fun Q q => ⟨w.cps.getD 0 0, z, ?_, rfl, q⟩⟩
        obtain ⟨cps⟩ := w
        have hl : cps.size = 1 := hl
        congr 1
        congr 1
        apply Array.ext
        · simp [hl]
        · intro i h1 h2
          have e : i = 0 := by omega
          subst e
          simp [Array.getD, hl]
      | _ => exact nomatch hv
    | _ => cases a <;> exact nomatch hv
end
end OI
set_option maxRecDepth 100000
set_option maxHeartbeats 4000000
/-! OI13: comparisons, chains, signs, if else. -/
namespace OI
open PySem PySem.Spec PyProof.Rows L2
section
variable {T : List FnA} {X : Cx} {K : PySem.W.Frag} {σ σ' : St} {S S' : ASt} {M : List Nat} {H : Hp} {Z : Addr → Prop}
theorem Good.un {G : Ctx} {ER : ERel} {W : WX} {k : Nat} (g : Good X T G ER W k) : X.A.units + 65 < cLine := by have := g.room.un; omega
theorem cmpP_exc {op : CmpOp} {a b x : PV} : cmpP op a b ≠ .exc x := by
  intro h
  unfold cmpP at h
  split at h <;> first | (cases h; done) | (obtain ⟨_, h⟩ := need_exc.mp h; cases h; done)
theorem Gots.stepd {env' : Env} {Γ' : List Gt} {rs : List TR} {vs : List PV} {ws : List V} {Fl : List (List Addr)} (g : Gots K σ M S env' Γ' rs vs S' ws Fl) : Stepd K σ M S env' Γ' S' := ⟨g.env, g.g, g.stp, g.ok⟩
/-- .. as a test -/
theorem wl_twoT {qa qb : Expr} {Q : Bool → Hp → Prop} {f : Value → Value → Sem Value} (h : WL X [qa, qb] σ H fun ws H' => ∃ x y, ws = [x, y] ∧ OpAny X f x y H' fun z H3 => ∃ k, z = .bl k ∧ Q k H3) : tTest (tOp (OpAny X f) (WE X qa) (WE X qb)) σ H Q :=
  WE.imp h fun x H1 h => WE.imp h fun y H2 ⟨x', y', e, q⟩ => by
    cases e
    exact q
theorem me_cmp {N : List Str} {sc : Scope} {op : CmpOp} {es : List E} {e : Expr} (he : meE T N sc (.cmp op es) e = true) : ∃ a b pos, e = .Compare a [op] [b] pos ∧ behindInMarks op b = false ∧ meEs T N sc es [a, b] = true := by
  cases e <;> simp only [meE, Bool.false_eq_true] at he
  rename_i a ops bs pos
  match ops, bs, he with
  | [o], [b], he =>
    simp only [Bool.and_eq_true, decide_eq_true_eq, Bool.not_eq_true'] at he
    obtain ⟨⟨rfl, h1⟩, h2⟩ := he
    exact ⟨a, b, pos, rfl, h1, h2⟩
theorem snd_cmp {op : CmpOp} {es : List E} (hs : ∀ e ∈ es, SndE T e) : SndE T (.cmp op es) := by
  have ih := snds_iff.mp (snds_of hs)
  refine snd_iff.mpr fun X G ER W k g e he σ S r Γ' ht o => ?_
  obtain ⟨qa, qb, pos, rfl, hm, he⟩ := me_cmp he
  simp only [typE] at ht
  cases t1 : typEs T es S.G with
  | none => simp [t1] at ht
  | some p1 =>
    obtain ⟨rs, Γ1⟩ := p1
    simp only [t1, Option.some.injEq, Prod.mk.injEq] at ht
    obtain ⟨rfl, rfl⟩ := ht
    have s1 := ih X G ER W k g [qa, qb] he σ S rs _ t1 o
    have tE : tchE (.cmp op es) = tchEs es := by simp [tchE]
    refine ⟨fun v env' ev Q hQ => ?_, fun y ev Q hQ => ?_⟩
    · simp only [evalE, Res.bind_ok] at ev
      obtain ⟨⟨vs, env1⟩, ev1, e2⟩ := ev
      split at e2
      · rename_i a b hab
        simp only at hab
        subst hab
        obtain ⟨c, hv, e3⟩ := Res.bind_ok.mp e2
        cases e3
        refine .of (pe_cmpR opAny pe_we pe_we hm) (wl_two (s1.ok _ _ ev1 _ fun S1 ws Fl g1 => ?_))
        obtain ⟨r1, r2, x, y, F1, F2, e4, rfl, _, tm1, tm2⟩ := g1.two
        obtain ⟨ru, hop, hru⟩ := cmp_val g.un hv tm1.rep tm2.rep
        exact ⟨x, y, rfl, ru, hop, hru Q (hQ S1 _ [] (Got.bl (tE ▸ g1.stepd)))⟩
      · cases e2
    · simp only [evalE, Res.bind_exc] at ev
      rcases ev with ev | ⟨⟨vs, env1⟩, ev1, e2⟩
      · exact .of (pe_cmpR opAny pe_we pe_we hm) (wl_two (s1.exc y ev _ (tE ▸ hQ)))
      · exfalso
        split at e2
        · rcases Res.bind_exc.mp e2 with e2 | ⟨_, _, e2⟩
          · exact cmpP_exc e2
          · cases e2
        · cases e2
theorem sndt_cmp {op : CmpOp} {es : List E} (hs : ∀ e ∈ es, SndE T e) : SndT T (.cmp op es) := by
  have ih := snds_iff.mp (snds_of hs)
  intro X G ER W k g e he σ S r Γ' ht o
  obtain ⟨qa, qb, pos, rfl, hm, he⟩ := me_cmp he
  simp only [typE] at ht
  cases t1 : typEs T es S.G with
  | none => simp [t1] at ht
  | some p1 =>
    obtain ⟨rs, Γ1⟩ := p1
    simp only [t1, Option.some.injEq, Prod.mk.injEq] at ht
    obtain ⟨rfl, rfl⟩ := ht
    have s1 := ih X G ER W k g [qa, qb] he σ S rs _ t1 o
    have tE : tchE (.cmp op es) = tchEs es := by simp [tchE]
    refine ⟨fun v env' d ev hd Q hQ => ?_, fun y ev Q hQ => ?_⟩
    · simp only [evalE, Res.bind_ok] at ev
      obtain ⟨⟨vs, env1⟩, ev1, e2⟩ := ev
      split at e2
      · rename_i a b hab
        simp only at hab
        subst hab
        obtain ⟨c, hv, e3⟩ := Res.bind_ok.mp e2
        cases e3
        have e : c = d := by simpa [truth] using hd
        subst e
        refine .of (pt_cmpR opAny pe_we pe_we hm) (wl_twoT (s1.ok _ _ ev1 _ fun S1 ws Fl g1 => ?_))
        obtain ⟨r1, r2, x, y, F1, F2, e4, rfl, _, tm1, tm2⟩ := g1.two
        obtain ⟨ru, hop, hru⟩ := cmp_val g.un hv tm1.rep tm2.rep
        exact ⟨x, y, rfl, ru, hop, hru _ ⟨c, rfl, hQ S1 (tE ▸ g1.stepd)⟩⟩
      · cases e2
    · simp only [evalE, Res.bind_exc] at ev
      rcases ev with ev | ⟨⟨vs, env1⟩, ev1, e2⟩
      · exact .of (pt_cmpR opAny pe_we pe_we hm) (wl_twoT (s1.exc y ev _ (tE ▸ hQ)))
      · exfalso
        split at e2
        · rcases Res.bind_exc.mp e2 with e2 | ⟨_, _, e2⟩
          · exact cmpP_exc e2
          · cases e2
        · cases e2
theorem snd_neg {a : E} (h : SndE T a) : SndE T (.neg a) := by
  have ih := snd_iff.mp h
  refine snd_iff.mpr fun X G ER W k g e he σ S r Γ' ht o => ?_
  cases e <;> simp only [meE, Bool.false_eq_true] at he
  rename_i op q pos
  cases op <;> simp only [Bool.false_eq_true] at he
  simp only [typE] at ht
  cases t1 : typE T a S.G with
  | none => simp [t1] at ht
  | some p1 =>
    obtain ⟨r1, Γ1⟩ := p1
    simp only [t1, Option.some.injEq, Prod.mk.injEq] at ht
    obtain ⟨rfl, rfl⟩ := ht
    have s1 := ih X G ER W k g q he σ S r1 Γ1 t1 o
    refine ⟨fun v env' ev Q hQ => ?_, fun y ev Q hQ => ?_⟩
    · simp only [evalE, Res.bind_ok] at ev
      obtain ⟨⟨v1, env1⟩, ev, e2⟩ := ev
      cases v1 <;> simp only [reduceCtorEq] at e2
      rename_i i
      cases e2
      refine .of (pe_un un_neg pe_we) (s1.ok _ _ ev _ fun S1 w F g1 => ?_)
      obtain ⟨d, F', rp⟩ := RepT.any g1.tmp.rep
      cases rp
      exact ⟨i, rfl, hQ S1 _ [] ⟨g1.env, g1.g, g1.stp, g1.ok, ⟨⟨rfl, ⟨1, rfl⟩, .int _⟩, fun _ _ _ h => (nomatch h), fun _ _ _ h => (nomatch h), fun _ h => (nomatch h)⟩, fun _ _ h => (nomatch h)⟩⟩
    · simp only [evalE, Res.bind_exc] at ev
      rcases ev with ev | ⟨⟨v1, _⟩, _, ev⟩
      · exact .of (pe_un un_neg pe_we) (s1.exc y ev _ hQ)
      · cases v1 <;> exact nomatch ev
/-! ### a if c else b -/
theorem pt_ifExp {c a b : Expr} {pos : Pos} {tc ta tb : TT} (hc : PT X c tc) (ha : PT X a ta) (hb : PT X b tb) : PT X (.IfExp c a b pos) (fun σ H Q => tc σ H fun k H1 => if k = true then ta σ H1 Q else tb σ H1 Q) := by
  refine ⟨fun pins s σ H Q I h => ?_⟩
  refine isTrue_IfExp (thn (hc.run pins s σ H _ I h) fun d s1 ⟨H1, I1, q1⟩ => ?_)
  cases d with
  | true => exact ha.run pins s1 σ H1 Q I1 q1
  | false => exact hb.run pins s1 σ H1 Q I1 q1
theorem snd_ite {c a b : E} (hc : SndT T c) (ha : SndE T a) (hb : SndE T b) : SndE T (.ite c a b) := by
  have iha := snd_iff.mp ha
  have ihb := snd_iff.mp hb
  refine snd_iff.mpr fun X G ER W k g e he σ S r Γ' ht o => ?_
  cases e <;> simp only [meE, Bool.false_eq_true] at he
  rename_i qc qa qb pos
  simp only [Bool.and_eq_true] at he
  obtain ⟨he0, he1, he2⟩ := he
  simp only [typE] at ht
  cases t0 : typE T c S.G with
  | none => simp [t0] at ht
  | some p0 =>
    obtain ⟨r0, Γ0⟩ := p0
    simp only [t0] at ht
    cases t1 : typE T a Γ0 with
    | none => simp [t1] at ht
    | some p1 =>
      obtain ⟨r1, Γ1⟩ := p1
      cases t2 : typE T b Γ0 with
      | none => simp [t1, t2] at ht
      | some p2 =>
        obtain ⟨r2, Γ2⟩ := p2
        simp only [t1, t2] at ht
        split at ht
        · rename_i hΓ
          subst hΓ
          obtain ⟨τ, hj, e3⟩ := Option.map_eq_some_iff.mp ht
          cases e3
          obtain ⟨c1, c2⟩ := joinT_ok hj
          have m0 : ∀ i ∈ tchE c, i ∈ tchE (.ite c a b) := fun i hi => by simp only [tchE]; exact List.mem_append_left _ hi
          have m1 : ∀ i ∈ tchE a, i ∈ tchE (.ite c a b) := fun i hi => by simp only [tchE]; exact List.mem_append_right _ (List.mem_append_left _ hi)
          have m2 : ∀ i ∈ tchE b, i ∈ tchE (.ite c a b) := fun i hi => by simp only [tchE]; exact List.mem_append_right _ (List.mem_append_right _ hi)
          have s0 := hc X G ER W k g qc he0 σ S r0 Γ0 t0 o
          refine ⟨fun v env' ev Q hQ => ?_, fun y ev Q hQ => ?_⟩
          · simp only [evalE, Res.bind_ok] at ev
            obtain ⟨⟨v0, env0⟩, ev0, t, hb, e2⟩ := ev
            refine .of (pe_ifExp pt_wt pe_we pe_we) (s0.ok v0 _ t ev0 hb _ fun S1 g1 => ?_)
            cases t with
            | true =>
              rw [if_pos rfl] at e2 ⊢
              have s1 := iha X G ER W k g qa he1 σ S1 r1 _ (by rw [g1.g]; exact t1) g1.ok
              refine s1.ok v env' (by rw [g1.env]; exact e2) _ fun S2 w2 F2 g2 => ?_
              obtain ⟨S3, F3, e4, g3⟩ := (Got.after g1.stp g2 m0 m1).conv c1
              rw [← e4]
              exact hQ S3 w2 F3 g3
            | false =>
              rw [if_neg (by decide)] at e2 ⊢
              have s2 := ihb X G ER W k g qb he2 σ S1 r2 _ (by rw [g1.g]; exact t2) g1.ok
              refine s2.ok v env' (by rw [g1.env]; exact e2) _ fun S2 w2 F2 g2 => ?_
              obtain ⟨S3, F3, e4, g3⟩ := (Got.after g1.stp g2 m0 m2).conv c2
              rw [← e4]
              exact hQ S3 w2 F3 g3
          · simp only [evalE, Res.bind_exc, Res.bind_ok] at ev
            rcases ev with ev | ⟨⟨v0, env0⟩, ev0, e2⟩
            · exact .of (pe_ifExp pt_wt pe_we pe_we) (s0.exc y ev _ (hQ.mono m0))
            · rcases e2 with e2 | ⟨t, hb, e2⟩
              · exact absurd e2 truth_exc
              · refine .of (pe_ifExp pt_wt pe_we pe_we) (s0.ok v0 _ t ev0 hb _ fun S1 g1 => ?_)
                cases t with
                | true =>
                  rw [if_pos rfl] at e2 ⊢
                  have s1 := iha X G ER W k g qa he1 σ S1 r1 _ (by rw [g1.g]; exact t1) g1.ok
                  exact s1.exc y (by rw [g1.env]; exact e2) _ (hQ.step (g1.stp.mono m0) m1)
                | false =>
                  rw [if_neg (by decide)] at e2 ⊢
                  have s2 := ihb X G ER W k g qb he2 σ S1 r2 _ (by rw [g1.g]; exact t2) g1.ok
                  exact s2.exc y (by rw [g1.env]; exact e2) _ (hQ.step (g1.stp.mono m0) m2)
        · cases ht
theorem sndt_ite {c a b : E} (hc : SndT T c) (ha : SndT T a) (hb : SndT T b) : SndT T (.ite c a b) := by
  intro X G ER W k g e he σ S r Γ' ht o
  cases e <;> simp only [meE, Bool.false_eq_true] at he
  rename_i qc qa qb pos
  simp only [Bool.and_eq_true] at he
  obtain ⟨he0, he1, he2⟩ := he
  simp only [typE] at ht
  cases t0 : typE T c S.G with
  | none => simp [t0] at ht
  | some p0 =>
    obtain ⟨r0, Γ0⟩ := p0
    simp only [t0] at ht
    cases t1 : typE T a Γ0 with
    | none => simp [t1] at ht
    | some p1 =>
      obtain ⟨r1, Γ1⟩ := p1
      cases t2 : typE T b Γ0 with
      | none => simp [t1, t2] at ht
      | some p2 =>
        obtain ⟨r2, Γ2⟩ := p2
        simp only [t1, t2] at ht
        split at ht
        · rename_i hΓ
          subst hΓ
          obtain ⟨τ, hj, e3⟩ := Option.map_eq_some_iff.mp ht
          cases e3
          have m0 : ∀ i ∈ tchE c, i ∈ tchE (.ite c a b) := fun i hi => by simp only [tchE]; exact List.mem_append_left _ hi
          have m1 : ∀ i ∈ tchE a, i ∈ tchE (.ite c a b) := fun i hi => by simp only [tchE]; exact List.mem_append_right _ (List.mem_append_left _ hi)
          have m2 : ∀ i ∈ tchE b, i ∈ tchE (.ite c a b) := fun i hi => by simp only [tchE]; exact List.mem_append_right _ (List.mem_append_right _ hi)
          have s0 := hc X G ER W k g qc he0 σ S r0 Γ0 t0 o
          refine ⟨fun v env' d ev hd Q hQ => ?_, fun y ev Q hQ => ?_⟩
          · simp only [evalE, Res.bind_ok] at ev
            obtain ⟨⟨v0, env0⟩, ev0, t, hb', e2⟩ := ev
            refine .of (pt_ifExp pt_wt pt_wt pt_wt) (s0.ok v0 _ t ev0 hb' _ fun S1 g1 => ?_)
            cases t with
            | true =>
              rw [if_pos rfl] at e2 ⊢
              have s1 := ha X G ER W k g qa he1 σ S1 r1 _ (by rw [g1.g]; exact t1) g1.ok
              exact s1.ok v env' d (by rw [g1.env]; exact e2) hd _ fun S2 g2 => hQ S2 (Stepd.after g1.stp g2 m0 m1)
            | false =>
              rw [if_neg (by decide)] at e2 ⊢
              have s2 := hb X G ER W k g qb he2 σ S1 r2 _ (by rw [g1.g]; exact t2) g1.ok
              exact s2.ok v env' d (by rw [g1.env]; exact e2) hd _ fun S2 g2 => hQ S2 (Stepd.after g1.stp g2 m0 m2)
          · simp only [evalE, Res.bind_exc, Res.bind_ok] at ev
            rcases ev with ev | ⟨⟨v0, env0⟩, ev0, e2⟩
            · exact .of (pt_ifExp pt_wt pt_wt pt_wt) (s0.exc y ev _ (hQ.mono m0))
            · rcases e2 with e2 | ⟨t, hb', e2⟩
              · exact absurd e2 truth_exc
              · refine .of (pt_ifExp pt_wt pt_wt pt_wt) (s0.ok v0 _ t ev0 hb' _ fun S1 g1 => ?_)
                cases t with
                | true =>
                  rw [if_pos rfl] at e2 ⊢
                  have s1 := ha X G ER W k g qa he1 σ S1 r1 _ (by rw [g1.g]; exact t1) g1.ok
                  exact s1.exc y (by rw [g1.env]; exact e2) _ (hQ.step (g1.stp.mono m0) m1)
                | false =>
                  rw [if_neg (by decide)] at e2 ⊢
                  have s2 := hb X G ER W k g qb he2 σ S1 r2 _ (by rw [g1.g]; exact t2) g1.ok
                  exact s2.exc y (by rw [g1.env]; exact e2) _ (hQ.step (g1.stp.mono m0) m2)
        · cases ht
/-! ### a op b op' c -/
theorem me_chn {N : List Str} {sc : Scope} {o1 o2 : CmpOp} {a b c : E} {e : Expr} (he : meE T N sc (.chn o1 o2 a b c) e = true) : ∃ qa qb qc pos, e = .Compare qa [o1, o2] [qb, qc] pos ∧ lastMarks [o1, o2] [qb, qc] = false ∧ meE T N sc a qa = true ∧ meE T N sc b qb = true ∧ meE T N sc c qc = true := by
  cases e <;> simp only [meE, Bool.false_eq_true] at he
  rename_i qa ops qs pos
  split at he
  · simp only [Bool.and_eq_true, decide_eq_true_eq, Bool.not_eq_true'] at he
    obtain ⟨rfl, rfl, h1, h2, h3, h4⟩ := he
    rename_i h
    cases h
    exact ⟨_, _, _, _, rfl, h1, h2, h3, h4⟩
  · cases he
theorem chn_ty {o1 o2 : CmpOp} {a b c : E} {Γ Γ' : List Gt} {r : TR} (ht : typE T (.chn o1 o2 a b c) Γ = some (r, Γ')) : r = (.cl, none) ∧ tchE b = [] ∧ tchE c = [] ∧ ∃ r0 r1 r2, typE T a Γ = some (r0, Γ') ∧ typE T b Γ' = some (r1, Γ') ∧ typE T c Γ' = some (r2, Γ') := by
  simp only [typE] at ht
  split at ht
  · rename_i x Γ0 h0
    split at ht
    · rename_i x1 Γ1 x2 Γ2 h1 h2
      split at ht
      · rename_i hc
        cases ht
        simp only [Bool.and_eq_true, decide_eq_true_eq, List.isEmpty_iff] at hc
        obtain ⟨⟨⟨e1, e2⟩, rfl⟩, rfl⟩ := hc
        exact ⟨rfl, e1, e2, _, _, _, h0, h1, h2⟩
      · cases ht
    · cases ht
  · cases ht
theorem chn_core {o1 o2 : CmpOp} {a b c : E} (ha : SndE T a) (hb : SndE T b) (hc : SndE T c) {X : Cx} {G : Ctx} {ER : ERel} {W : WX} {k : Nat} (g : Good X T G ER W k) {qa qb qc : Expr} (he0 : meE T X.N X.env.scope a qa = true) (he1 : meE T X.N X.env.scope b qb = true)
    (he2 : meE T X.N X.env.scope c qc = true) {σ : St} {S : ASt} {r : TR} {Γ' : List Gt} (ht : typE T (.chn o1 o2 a b c) S.G = some (r, Γ')) (o : Ok X.K σ S) :
      (∀ v env', evalE G (.chn o1 o2 a b c) S.env = .ok (v, env') → ∃ u, v = .bl u ∧ ∀ Q : VK, (∀ S', Stepd X.K σ (tchE (.chn o1 o2 a b c)) S env' Γ' S' → Q (.bl u) S'.H) → tChain (OpAny X (compareOp o1)) (OpAny X (compareOp o2)) (WE X qa) (WE X qb) (WE X qc) σ S.H Q) ∧
      (∀ x, evalE G (.chn o1 o2 a b c) S.env = .exc x → ∀ Q : VK, XW ER W σ (tchE (.chn o1 o2 a b c)) S x → tChain (OpAny X (compareOp o1)) (OpAny X (compareOp o2)) (WE X qa) (WE X qb) (WE X qc) σ S.H Q) := by
  obtain ⟨rfl, eb, ec, r0, r1, r2, t0, t1, t2⟩ := chn_ty ht
  have iha := snd_iff.mp ha
  have ihb := snd_iff.mp hb
  have ihc := snd_iff.mp hc
  have s0 := iha X G ER W k g qa he0 σ S r0 Γ' t0 o
  have tE : tchE (.chn o1 o2 a b c) = tchE a := by simp [tchE, eb, ec]
  rw [tE]
  constructor
  · intro v env' ev
    simp only [evalE, Res.bind_ok] at ev
    obtain ⟨⟨v0, env0⟩, ev0, ⟨v1, env1⟩, ev1, t, hv1, ev2⟩ := ev
    have fst : ∀ (u : Bool) (envE : Env) (Q : VK), (∀ S', Stepd X.K σ (tchE a) S envE Γ' S' → Q (.bl u) S'.H) → (∀ (S2 : ASt) (y : V) (F : List Addr), Stepd X.K σ (tchE a) S env1 Γ' S2 → Tmp X.K S2 r1.1 r1.2 v1 y F →
        if t = true then WE X qc σ S2.H fun w' H4 => OpAny X (compareOp o2) y w' H4 Q else Q (.bl false) S2.H) → tChain (OpAny X (compareOp o1)) (OpAny X (compareOp o2)) (WE X qa) (WE X qb) (WE X qc) σ S.H Q := fun u envE Q hQ hk => by
      refine s0.ok v0 env0 ev0 _ fun S1 x F1 g1 => ?_
      have s1 := ihb X G ER W k g qb he1 σ S1 r1 Γ' (by rw [g1.g]; exact t1) g1.ok
      refine s1.ok v1 env1 (by rw [g1.env]; exact ev1) _ fun S2 y F2 g2 => ?_
      have st2 : Stp [] S1 S2 := by have := g2.stp; rw [eb] at this; exact this
      have tx := g1.tmp.step g1.ok st2 fun _ _ => by simp
      obtain ⟨ru, hop, hru⟩ := cmp_val g.un hv1 tx.rep g2.tmp.rep
      exact ⟨ru, hop, hru _ ⟨t, rfl, hk S2 y F2 (Stepd.after g1.stp g2.stepd (fun _ h => h) (fun i hi => by rw [eb] at hi; cases hi)) g2.tmp⟩⟩
    cases t with
    | true =>
      rw [if_pos rfl] at ev2
      obtain ⟨⟨v2, env2⟩, ev4, ev3⟩ := Res.bind_ok.mp ev2
      obtain ⟨u, hv2, e3⟩ := Res.bind_ok.mp ev3
      cases e3
      refine ⟨u, rfl, fun Q hQ => fst u env2 Q hQ fun S2 y F2 g2 ty => ?_⟩
      rw [if_pos rfl]
      have s2 := ihc X G ER W k g qc he2 σ S2 r2 Γ' (by rw [g2.g]; exact t2) g2.ok
      refine s2.ok v2 env2 (by rw [g2.env]; exact ev4) _ fun S3 z F3 g3 => ?_
      have st3 : Stp [] S2 S3 := by have := g3.stp; rw [ec] at this; exact this
      have ty := ty.step g2.ok st3 fun _ _ => by simp
      obtain ⟨ru, hop, hru⟩ := cmp_val g.un hv2 ty.rep g3.tmp.rep
      exact ⟨ru, hop, hru _ (hQ S3 (Stepd.after g2.stp g3.stepd (fun _ h => h) (fun i hi => by rw [ec] at hi; cases hi)))⟩
    | false =>
      rw [if_neg (by decide)] at ev2
      cases ev2
      refine ⟨false, rfl, fun Q hQ => fst false env1 Q hQ fun S2 y F2 g2 ty => ?_⟩
      rw [if_neg (by decide)]
      exact hQ S2 g2
  · intro x ev Q hQ
    simp only [evalE, Res.bind_exc] at ev
    rcases ev with ev | ⟨⟨v0, env0⟩, ev0, ev⟩
    · exact s0.exc x ev _ hQ
    · refine s0.ok v0 env0 ev0 _ fun S1 x1 F1 g1 => ?_
      have s1 := ihb X G ER W k g qb he1 σ S1 r1 Γ' (by rw [g1.g]; exact t1) g1.ok
      rcases ev with ev | ⟨⟨v1, env1⟩, ev1, ev⟩
      · exact s1.exc x (by rw [g1.env]; exact ev) _ (hQ.step g1.stp (fun i hi => by rw [eb] at hi; cases hi))
      · refine s1.ok v1 env1 (by rw [g1.env]; exact ev1) _ fun S2 y F2 g2 => ?_
        rcases ev with ev | ⟨t, hv1, ev⟩
        · exact absurd ev cmpP_exc
        · have st2 : Stp [] S1 S2 := by have := g2.stp; rw [eb] at this; exact this
          have tx := g1.tmp.step g1.ok st2 fun _ _ => by simp
          obtain ⟨ru, hop, hru⟩ := cmp_val g.un hv1 tx.rep g2.tmp.rep
          refine ⟨ru, hop, hru _ ⟨t, rfl, ?_⟩⟩
          cases t with
          | true =>
            rw [if_pos rfl] at ev ⊢
            rcases Res.bind_exc.mp ev with ev | ⟨_, _, ev⟩
            · have s2 := ihc X G ER W k g qc he2 σ S2 r2 Γ' (by rw [g2.g]; exact t2) g2.ok
              exact s2.exc x (by rw [g2.env]; exact ev) _ (hQ.step (g1.stp.trans (g2.stp.mono fun i hi => by rw [eb] at hi; cases hi)) (fun i hi => by rw [ec] at hi; cases hi))
            · rcases Res.bind_exc.mp ev with ev | ⟨_, _, ev⟩
              · exact absurd ev cmpP_exc
              · cases ev
          | false =>
            rw [if_neg (by decide)] at ev
            cases ev
theorem snd_chn {o1 o2 : CmpOp} {a b c : E} (ha : SndE T a) (hb : SndE T b) (hc : SndE T c) : SndE T (.chn o1 o2 a b c) := by
  refine snd_iff.mpr fun X G ER W k g e he σ S r Γ' ht o => ?_
  obtain ⟨qa, qb, qc, pos, rfl, hm, he0, he1, he2⟩ := me_chn he
  obtain ⟨h1, h2⟩ := chn_core ha hb hc g he0 he1 he2 ht o
  obtain ⟨rfl, _⟩ := chn_ty ht
  refine ⟨fun v env' ev Q hQ => ?_, fun y ev Q hQ => ?_⟩
  · obtain ⟨u, rfl, h⟩ := h1 v env' ev
    exact .of (pe_chain opAny opAny pe_we pe_we pe_we hm) (h Q fun S' g' => hQ S' _ [] (Got.bl g'))
  · exact .of (pe_chain opAny opAny pe_we pe_we pe_we hm) (h2 y ev Q hQ)
theorem sndt_chn {o1 o2 : CmpOp} {a b c : E} (ha : SndE T a) (hb : SndE T b) (hc : SndE T c) : SndT T (.chn o1 o2 a b c) := by
  intro X G ER W k g e he σ S r Γ' ht o
  obtain ⟨qa, qb, qc, pos, rfl, hm, he0, he1, he2⟩ := me_chn he
  obtain ⟨h1, h2⟩ := chn_core ha hb hc g he0 he1 he2 ht o
  refine ⟨fun v env' d ev hd Q hQ => ?_, fun y ev Q hQ => ?_⟩
  · obtain ⟨u, rfl, h⟩ := h1 v env' ev
    have e : u = d := by simpa [truth] using hd
    subst e
    exact .of (pt_chain opAny opAny pe_we pe_we pe_we hm) (h _ fun S' g' => ⟨u, rfl, hQ S' g'⟩)
  · exact .of (pt_chain opAny opAny pe_we pe_we pe_we hm) (h2 y ev _ hQ)
end
end OI
set_option maxRecDepth 100000
set_option maxHeartbeats 4000000
/-! OI14: items, slices. -/
namespace OI
open PySem PySem.Spec PyProof.Rows L2
section
variable {T : List FnA} {X : Cx} {K : PySem.W.Frag} {σ σ' : St} {S S' : ASt} {M : List Nat} {H : Hp} {Z : Addr → Prop}
theorem reps0_p {xs : List PV} {ws : List V} {F : List Addr} (h : Reps K H Z 0 xs ws F) : Paired (fun x w => Rep K H Z 0 x w []) xs ws := by
  induction xs generalizing ws F with
  | nil => cases h; exact .nil
  | cons x xs ih =>
    cases h with
    | cons h1 h2 h3 =>
      have e1 := Rep.zeroF h1
      subst e1
      exact .cons h1 (ih h2)
theorem p_reps0 {xs : List PV} {ws : List V} (h : Paired (fun x w => Rep K H Z 0 x w []) xs ws) : Reps K H Z 0 xs ws [] := by
  induction h with
  | nil => exact .nil
  | cons h1 _ ih => exact Reps.cons (F := []) (G := []) h1 ih fun _ z => nomatch z
theorem Paired.take' {α β : Type} {F : α → β → Prop} : ∀ {xs : List α} {ys : List β} (n : Nat), Paired F xs ys → Paired F (xs.take n) (ys.take n)
  | _, _, 0, _ => by simp only [List.take_zero]; exact .nil
  | _, _, _ + 1, .nil => by simp only [List.take_nil]; exact .nil
  | _, _, n + 1, .cons h t => by simp only [List.take_succ_cons]; exact .cons h (Paired.take' n t)
theorem Paired.drop' {α β : Type} {F : α → β → Prop} : ∀ {xs : List α} {ys : List β} (n : Nat), Paired F xs ys → Paired F (xs.drop n) (ys.drop n)
  | _, _, 0, h => h
  | _, _, _ + 1, .nil => by simp only [List.drop_nil]; exact .nil
  | _, _, n + 1, .cons h t => by simp only [List.drop_succ_cons]; exact Paired.drop' n t
theorem Paired.app' {α β : Type} {F : α → β → Prop} {xs xs' : List α} {ys ys' : List β} (h : Paired F xs ys) (h' : Paired F xs' ys') : Paired F (xs ++ xs') (ys ++ ys') := by
  induction h with
  | nil => exact h'
  | cons a _ ih => exact .cons a ih
theorem Paired.rev' {α β : Type} {F : α → β → Prop} {xs : List α} {ys : List β} (h : Paired F xs ys) : Paired F xs.reverse ys.reverse := by
  induction h with
  | nil => exact .nil
  | cons a _ ih => simp only [List.reverse_cons]; exact Paired.app' ih (.cons a .nil)
theorem Paired.get' {α β : Type} {F : α → β → Prop} {xs : List α} {ys : List β} (h : Paired F xs ys) : ∀ {j : Nat} {x : α}, xs[j]? = some x → ∃ y, ys[j]? = some y ∧ F x y := by
  induction h with
  | nil => intro j x e; simp at e
  | cons a _ ih =>
    intro j x e
    cases j with
    | zero => simp at e; subst e; exact ⟨_, rfl, a⟩
    | succ j => simpa using ih (by simpa using e)
theorem Reps.get {d : Nat} {vs : List PV} {ws : List V} {F : List Addr} (h : Reps K H Z d vs ws F) : ∀ {j : Nat} {v : PV}, vs[j]? = some v → ∃ w F', ws[j]? = some w ∧ Rep K H Z d v w F' ∧ ∀ a ∈ F', a ∈ F := by
  induction vs generalizing ws F with
  | nil => intro j v e; simp at e
  | cons x xs ih =>
    intro j v e
    cases h with
    | cons h1 h2 h3 =>
      cases j with
      | zero => simp at e; subst e; exact ⟨_, _, rfl, h1, fun a ha => List.mem_append_left _ ha⟩
      | succ j =>
        obtain ⟨w, F', e1, r, s⟩ := ih h2 (j := j) (v := v) (by simpa using e)
        exact ⟨w, F', by simpa using e1, r, fun a ha => List.mem_append_right _ (s a ha)⟩
theorem ixP_eq {n : Nat} {i : Int} : ixP n i = ixN n i := by
  unfold ixP ixN
  by_cases h : 0 ≤ i
  · simp only [if_pos h]
  · simp only [if_neg h]
theorem at_get {xs : List PV} {ws : List V} {i : Int} {v : PV} (hl : xs.length = ws.length) (h : atP xs i = some v) : ∃ j : Nat, xs[j]? = some v ∧ ∀ w, ws[j]? = some w → atI ws i = some w := by
  unfold atP at h
  obtain ⟨j, h1, h2⟩ := Option.bind_eq_some_iff.mp h
  refine ⟨j, h2, fun w hw => ?_⟩
  unfold atI
  rw [← hl, ← ixP_eq, h1]
  exact hw
def subT : Tp → Tp
  | .cl => .cl
  | .d n => .d (n - 1)
theorem ix_dict (hu : X.A.units + 1 < cLine) : IxR X (fun x y H Q => ∃ a v, x = .ref a ∧ DGet H a y (some v) ∧ Q v H) := by
  intro value slice pins s σ H x y v u Q I rx ry h hs
  obtain ⟨a, z, rfl, g, q⟩ := h
  obtain rfl : v = Value.ref a := rx
  exact tail_any (dict_typeIs I g) PySem.F.slot_dict_getitem.lookup (d_getItem hu I g ry fun w' s' I' r' => ⟨z, H, I', r', q⟩) hs
theorem fnd_item {k : PV} {ks vs : List PV} {ws : List V} {v : PV} (hl : ks.length = ws.length) (hl' : vs.length = ws.length) (h : lookP k ks vs = some v) : ∃ j : Nat, vs[j]? = some v ∧ ∀ w, ws[j]? = some w → ((fndP k ks).bind fun i => ws[i]?) = some w := by
  rw [lookP_fnd (hl.trans hl'.symm)] at h
  obtain ⟨j, h1, h2⟩ := Option.bind_eq_some_iff.mp h
  exact ⟨j, h2, fun w hw => by rw [h1]; exact hw⟩
/-- what an item is -/
def ItemV (X : Cx) (H : Hp) (Z : Addr → Prop) (τ : Tp) (v : PV) (F : List Addr) (x y : V) : Prop := ∃ r, IxR X r ∧ ∃ w F', RepT X.K H Z τ v w F' ∧ (∀ a ∈ F', a ∈ F) ∧ ∀ Q : VK, Q w H → r x y H Q
theorem item_val {a b v : PV} {x y : V} {τ τ' : Tp} {F G : List Addr} (hu : X.A.units + 1 < cLine) (hv : itemP a b = .ok v) (ha : RepT X.K H Z τ a x F) (hb : RepT X.K H Z τ' b y G) : ItemV X H Z (subT τ) v F x y := by
  obtain ⟨db, Gb, rb⟩ := hb.any
  -- by depth
  have core : ∀ (d : Nat), Rep X.K H Z d a x F → ∃ r, IxR X r ∧ ∃ w F', Rep X.K H Z (d - 1) v w F' ∧ (∀ a ∈ F', a ∈ F) ∧ ∀ Q : VK, Q w H → r x y H Q := by
    intro d ra
    have sq : ∀ {e : Nat} {xs : List PV} {ws : List V} {L : List Addr} {p : Addr} {i : Int}, Reps X.K H Z e xs ws L → atP xs i = some v → (∀ c ∈ L, c ∈ F) → (SqL X.K H p ws ∨ SqT X.K H p ws) → y = .int i → ∃ r, IxR X r ∧ ∃ w F', Rep X.K H Z e v w F' ∧ (∀ a ∈ F', a ∈ F) ∧ ∀ Q : VK, Q w H → r (.ref p) y H Q := by
      intro e xs ws L p i h1 h2 h3 h4 h5
      obtain ⟨j, e1, e2⟩ := at_get h1.length h2
      obtain ⟨w, F', e3, r, s⟩ := h1.get e1
      refine ⟨_, ix_seq, w, F', r, fun c hc => h3 c (s c hc), fun Q q => ?_⟩
      rcases h4 with h4 | h4
      · exact .inl ⟨p, ws, i, w, rfl, h5, h4, e2 w e3, q⟩
      · exact .inr (.inl ⟨p, ws, i, w, rfl, h5, h4, e2 w e3, q⟩)
    have dc : ∀ {e : Nat} {t : Bool} {ks vs : List PV} {u : HO} {ws : List V} {L : List Addr} {p : Addr}, Rd H p u → Dct t u ks ws → Reps X.K H Z e vs ws L → (∀ c ∈ L, c ∈ F) → isKey t b = true → lookP b ks vs = some v →
        ∃ r, IxR X r ∧ ∃ w F', Rep X.K H Z e v w F' ∧ (∀ a ∈ F', a ∈ F) ∧ ∀ Q : VK, Q w H → r (.ref p) y H Q := by
      intro e t ks vs u ws L p h1 h2 h3 h4 h5 h6
      obtain ⟨j, e1, e2⟩ := fnd_item h2.lens h3.length h6
      obtain ⟨w, F', e3, r, s⟩ := h3.get e1
      refine ⟨_, ix_dict hu, w, F', r, fun c hc => h4 c (s c hc), fun Q q => ⟨p, w, rfl, ?_, q⟩⟩
      have g := dget_of h2 h1 h5 rb
      rw [e2 w e3] at g
      exact g
    cases ra with
    | tup0 h1 h2 =>
      cases b <;> simp only [itemP, reduceCtorEq] at hv
      split at hv <;> cases hv
      cases rb
      exact sq h2 (by assumption) (fun _ h => h) (.inr (.of h1)) rfl
    | tupS h1 h2 =>
      cases b <;> simp only [itemP, reduceCtorEq] at hv
      split at hv <;> cases hv
      cases rb
      exact sq h2 (by assumption) (fun _ h => h) (.inr (.of h1)) rfl
    | lst0 h1 h2 =>
      cases b <;> simp only [itemP, reduceCtorEq] at hv
      split at hv <;> cases hv
      cases rb
      exact sq (e := 0) h2 (by assumption) (fun c hc => by rw [Reps.zeroF h2] at hc; cases hc) (.inl (.inl h1.1)) rfl
    | lstS h1 h2 h3 =>
      cases b <;> simp only [itemP, reduceCtorEq] at hv
      split at hv <;> cases hv
      cases rb
      exact sq h2 (by assumption) (fun _ h => List.mem_cons_of_mem _ h) (.inl (.inl (.of h1))) rfl
    | str z =>
      obtain ⟨i, rfl⟩ : ∃ i, b = .int i := by
        cases b <;> first | exact ⟨_, rfl⟩ | exact nomatch hv
      obtain ⟨hz, hv⟩ := need_ok.mp hv
      split at hv <;> cases hv
      cases rb
      rename_i c hc
      refine ⟨_, ix_seq, _, [], .str _, fun _ h => (nomatch h), fun Q q => .inr (.inr ⟨z, i, c, rfl, rfl, by rw [sizeLine_eq]; exact hz, ?_, q⟩)⟩
      unfold atP at hc
      unfold atI
      rw [← ixP_eq]
      exact hc
    | @dct0 t ks vs p u ws L h1 h2 h3 h4 =>
      have hv : need (isKey t b = true) (match lookP b ks vs with | some v => .ok v | none => .stuck) = .ok v := by cases b <;> exact hv
      obtain ⟨hk, hv⟩ := need_ok.mp hv
      split at hv <;> cases hv
      exact dc (e := 0) (.of h1) h3 h4 (fun c hc => by rw [Reps.zeroF h4] at hc; cases hc) hk (by assumption)
    | @dctS d t ks vs p u ws L h1 h2 h3 h4 =>
      have hv : need (isKey t b = true) (match lookP b ks vs with | some v => .ok v | none => .stuck) = .ok v := by cases b <;> exact hv
      obtain ⟨hk, hv⟩ := need_ok.mp hv
      split at hv <;> cases hv
      exact dc (.of h1) h2 h3 (fun _ h => List.mem_cons_of_mem _ h) hk (by assumption)
    | non => cases b <;> exact nomatch hv
    | bl c => cases b <;> exact nomatch hv
    | int c => cases b <;> exact nomatch hv
  cases τ with
  | d n => exact core n ha
  | cl =>
    obtain ⟨r, hr, w, F', rp, hs, hq⟩ := core 0 (ha.1 ▸ ha.2.2)
    refine ⟨r, hr, w, [], ⟨rfl, ?_, ?_⟩, fun _ h => (nomatch h), hq⟩
    · -- clean
      obtain ⟨n, c⟩ := ha.2.1
      cases n with
      | zero => simp [clean] at c
      | succ n =>
        cases a <;> cases b <;> simp only [itemP, reduceCtorEq] at hv
        all_goals first
          | (simp [clean] at c; done)
          | skip
        · obtain ⟨_, hv⟩ := need_ok.mp hv
          split at hv <;> cases hv
          exact ⟨1, rfl⟩
        · split at hv <;> cases hv
          rename_i e
          unfold atP at e
          obtain ⟨j, _, e2⟩ := Option.bind_eq_some_iff.mp e
          simp only [clean, List.all_eq_true] at c
          exact ⟨n, c _ (List.mem_of_getElem? e2)⟩
    · rw [Rep.zeroF rp] at rp; exact rp
theorem itemP_exc {a b x : PV} : itemP a b ≠ .exc x := by
  intro h
  unfold itemP at h
  split at h <;> first
    | (obtain ⟨_, h⟩ := need_exc.mp h; split at h <;> cases h; done)
    | (split at h <;> cases h; done)
    | (cases h; done)
theorem notSlice_plain {i : Expr} (h : notSlice i = true) : PlainIx i := by
  intro o v
  cases i <;> first | rfl | (simp [notSlice] at h)
theorem wl_twoI {qa qb : Expr} {Q : VK} {r : R2} (h : WL X [qa, qb] σ H fun ws H' => ∃ x y, ws = [x, y] ∧ r x y H' Q) : tOp r (WE X qa) (WE X qb) σ H Q :=
  WE.imp h fun x H1 h => WE.imp h fun y H2 ⟨x', y', e, q⟩ => by
    cases e
    exact q
/-- by some rule -/
def IxAny (X : Cx) : R2 := fun x y H Q => ∃ r, IxR X r ∧ r x y H Q
theorem ixAny : IxR X (IxAny X) := fun value slice pins s σ H x y v u Q I rx ry ⟨r, o, q⟩ hs => o value slice pins s σ H x y v u Q I rx ry q hs
theorem snd_item {es : List E} (hs : ∀ e ∈ es, SndE T e) : SndE T (.item es) := by
  have ih := snds_iff.mp (snds_of hs)
  refine snd_iff.mpr fun X G ER W k g e he σ S r Γ' ht o => ?_
  cases e <;> simp only [meE, Bool.false_eq_true] at he
  rename_i qa qb pos
  simp only [Bool.and_eq_true] at he
  obtain ⟨hn, he⟩ := he
  simp only [typE] at ht
  cases t1 : typEs T es S.G with
  | none => simp [t1] at ht
  | some p1 =>
    obtain ⟨rs, Γ1⟩ := p1
    simp only [t1] at ht
    have s1 := ih X G ER W k g [qa, qb] he σ S rs Γ1 t1 o
    have tE : tchE (.item es) = tchEs es := by simp [tchE]
    split at ht
    · rename_i r1 r2 Γ2 heq
      cases heq
      refine ⟨fun v env' ev Q hQ => ?_, fun y ev Q hQ => ?_⟩
      · simp only [evalE, Res.bind_ok] at ev
        obtain ⟨⟨vs, env1⟩, ev1, e2⟩ := ev
        split at e2
        · rename_i a b hab
          simp only at hab
          subst hab
          obtain ⟨u, hv, e3⟩ := Res.bind_ok.mp e2
          cases e3
          refine .of (pe_ix ixAny pe_we pe_we (notSlice_plain hn)) (wl_twoI (s1.ok _ _ ev1 _ fun S1 ws Fl g1 => ?_))
          obtain ⟨r1', r2', x, y, F1, F2, e4, rfl, e5, tm1, tm2⟩ := g1.two
          cases e4
          subst e5
          obtain ⟨ru, hop, w, F', rp, hF, hq⟩ := item_val (by have := g.un; omega) hv tm1.rep tm2.rep
          refine ⟨x, y, rfl, ru, hop, hq Q ?_⟩
          have nw := g1.new 0 r1 F1 rfl rfl
          split at ht
          · rename_i hcl
            cases ht
            rw [hcl] at rp
            refine hQ S1 w [] ⟨g1.env, g1.g, tE ▸ g1.stp, g1.ok, ⟨?_, fun _ _ _ h => (nomatch h), fun _ _ _ h => (nomatch h), fun _ h => (nomatch h)⟩, fun _ _ h => (nomatch h)⟩
            exact ⟨rfl, rp.2.1, rp.2.2⟩
          · rename_i n hd
            cases ht
            rw [hd] at rp
            have rp : Rep X.K S1.H S1.Z (n - 1) v w F' := rp
            by_cases hn1 : n ≤ 1
            · have e0 : n - 1 = 0 := by omega
              rw [e0] at rp
              have ez := Rep.zeroF rp
              subst ez
              refine hQ S1 w [] ⟨g1.env, g1.g, tE ▸ g1.stp, g1.ok, ⟨by rw [e0]; exact rp, fun _ _ _ h => (nomatch h), fun _ _ _ h => (nomatch h), fun _ h => (nomatch h)⟩, fun _ _ h => (nomatch h)⟩
            · refine hQ S1 w F' ⟨g1.env, g1.g, tE ▸ g1.stp, g1.ok, ⟨rp, fun hn i a ha => ?_, fun z hz a ha => ?_, fun a ha => tm1.nz a (hF a ha)⟩, fun hn a ha => ?_⟩
              · simp only [if_neg hn1] at hn
                exact tm1.own hn i a (hF a ha)
              · simp only [if_neg hn1] at hz
                exact tm1.bor z hz a (hF a ha)
              · simp only [if_neg hn1] at hn
                rw [tE]
                exact nw hn a (hF a ha)
        · cases e2
      · simp only [evalE, Res.bind_exc] at ev
        rcases ev with ev | ⟨⟨vs, env1⟩, ev1, e2⟩
        · exact .of (pe_ix ixAny pe_we pe_we (notSlice_plain hn)) (wl_twoI (s1.exc y ev _ (tE ▸ hQ)))
        · exfalso
          split at e2
          · rcases Res.bind_exc.mp e2 with e2 | ⟨_, _, e2⟩
            · exact itemP_exc e2
            · cases e2
          · cases e2
    · cases ht
end
end OI
set_option maxRecDepth 100000
set_option maxHeartbeats 4000000
/-! OI15: slices. -/
namespace OI
open PySem PySem.Spec PyProof.Rows L2
section
variable {T : List FnA} {X : Cx} {K : PySem.W.Frag} {σ σ' : St} {S S' : ASt} {M : List Nat} {H : Hp} {Z : Addr → Prop}
theorem clampP_eq {n d : Nat} {i : Int} : clampP n i = HT.sIx n d (some i) := by
  unfold clampP
  show _ = if i < 0 then (i + (n : Int)).toNat else min i.toNat n
  by_cases h : i < 0
  · rw [if_pos h, if_pos h]; omega
  · rw [if_neg h, if_neg h]; omega
theorem cutP_eq {α : Type} {xs : List α} {lo hi : Option Int} : cutP xs lo hi = (xs.drop (HT.sIx xs.length 0 lo)).take (HT.sIx xs.length xs.length hi - HT.sIx xs.length 0 lo) := by
  unfold cutP
  cases lo <;> cases hi <;> simp only [clampP_eq (d := 0)] <;> rfl
theorem cut_reps {xs : List PV} {ws : List V} {lo hi : Option Int} (h : Reps K H Z 0 xs ws []) : Reps K H Z 0 (cutP xs lo hi) (cutV ws lo hi) [] := by
  rw [cutP_eq]
  unfold cutV
  rw [h.length]
  exact p_reps0 (Paired.take' _ (Paired.drop' _ (reps0_p h)))
def SlMk (X : Cx) (H : Hp) (Z : Addr → Prop) (v : PV) (x : V) (lo hi : Option Int) : Prop := ∃ r, SlR X r ∧ ∀ Q : VK, (∀ w H', Made X.K H Z v w H' → Q w H') → r x lo hi H Q
theorem sl_val {a v : PV} {x : V} {lo hi : Option Int} (hv : slcP a lo hi = .ok v) (ha : Shal X.K H Z a x) : SlMk X H Z v x lo hi := by
  cases a <;> simp only [slcP, reduceCtorEq] at hv
  · obtain ⟨hz, hv⟩ := need_ok.mp hv
    cases hv
    rw [ha.str]
    refine ⟨_, sl_str, fun Q q => ⟨_, rfl, by rw [sizeLine_eq]; exact hz, ?_⟩⟩
    have := q _ _ (Made.str (i := ⟨(cutP _ lo hi).toArray⟩))
    rw [cutP_eq] at this
    exact this
  · cases hv
    obtain ⟨p, ws, rfl, h1, h2⟩ := ha.tupI
    rename_i xs
    refine ⟨_, sl_tupA, fun Q q => ⟨p, ws, rfl, .of h1, fun ⟨e1, e2⟩ => ?_, fun _ t ht => q _ _ (.tup ht (cut_reps h2))⟩⟩
    have e : cutP xs lo hi = xs := by
      rw [cutP_eq, h2.length, e1, e2, ← h2.length]
      simp
    rw [e] at q
    exact q _ _ (.tupOld h1 h2)
  · cases hv
    obtain ⟨p, ws, rfl, h1, h2⟩ := ha.lstI
    exact ⟨_, sl_list, fun Q q => ⟨p, ws, rfl, .inl h1, fun t ht => q _ _ (.lst ht (cut_reps h2))⟩⟩
theorem slcP_clean {a v : PV} {lo hi : Option Int} (h : slcP a lo hi = .ok v) (ha : ∃ n, clean n a = true) : ∃ n, clean n v = true := by
  obtain ⟨n, ha⟩ := ha
  cases a <;> simp only [slcP, reduceCtorEq] at h
  · obtain ⟨_, h⟩ := need_ok.mp h
    cases h
    exact ⟨1, rfl⟩
  · cases h
    refine clean_tup fun v hv => clean_sub ha v ?_
    rw [cutP_eq] at hv
    exact List.mem_of_mem_drop (List.mem_of_mem_take hv)
  · cases n <;> simp [clean] at ha
theorem slcP_exc {a x : PV} {lo hi : Option Int} : slcP a lo hi ≠ .exc x := by
  intro h
  cases a <;> simp only [slcP, reduceCtorEq] at h
  obtain ⟨_, h⟩ := need_exc.mp h
  cases h
def SlAny (X : Cx) : V → Option Int → Option Int → Hp → VK → Prop := fun x lo hi H Q => ∃ r, SlR X r ∧ r x lo hi H Q
theorem slAny : SlR X (SlAny X) := fun pins s σ H x v vl vu lo hi sl Q I rx hs pl pu ⟨r, o, q⟩ => o pins s σ H x v vl vu lo hi sl Q I rx hs pl pu q
def WO (X : Cx) : Option Expr → TO
  | none => tNoPart
  | some e => tPart (WE X e)
theorem po_wo {o : Option Expr} : PO X o (WO X o) := by
  cases o with
  | none => exact po_none
  | some e => exact po_some pe_we
structure PartO (T : List FnA) (X : Cx) (G : Ctx) (ER : ERel) (W : WX) (lo : Option E) (l : Option Expr) (σ : St) (S : ASt) : Prop where
  ok : ∀ i env', evalO G lo S.env = .ok (i, env') → ∀ Q : Option Int → Hp → Prop, (∀ S', Stepd X.K σ [] S env' S.G S' → Q i S'.H) → WO X l σ S.H Q
  exc : ∀ x, evalO G lo S.env = .exc x → ∀ Q : Option Int → Hp → Prop, XW ER W σ [] S x → WO X l σ S.H Q
theorem part_of {lo : Option E} (h : ∀ e, lo = some e → SndE T e) {G : Ctx} {ER : ERel} {W : WX} {k : Nat} (g : Good X T G ER W k) {l : Option Expr} (he : meO T X.N X.env.scope lo l = true) (ht : typO T lo S.G = true) (h0 : tchO lo = []) (o : Ok X.K σ S) : PartO T X G ER W lo l σ S := by
  cases lo with
  | none =>
    cases l with
    | some _ => simp [meO] at he
    | none =>
      refine ⟨fun i env' ev Q hQ => ?_, fun x ev => ?_⟩
      · simp only [evalO, Res.ok.injEq, Prod.mk.injEq] at ev
        obtain ⟨rfl, rfl⟩ := ev
        exact hQ S ⟨rfl, rfl, .refl, o⟩
      · simp [evalO] at ev
  | some e =>
    cases l with
    | none => simp [meO] at he
    | some q =>
      simp only [typO] at ht
      cases t1 : typE T e S.G with
      | none => simp [t1] at ht
      | some p =>
        obtain ⟨r, Γ'⟩ := p
        simp only [t1, decide_eq_true_eq] at ht
        subst ht
        have s1 := snd_iff.mp (h e rfl) X G ER W k g q (by simpa [meO] using he) σ S r _ t1 o
        have h0 : tchE e = [] := h0
        refine ⟨fun i env' ev Q hQ => ?_, fun x ev Q hQ => ?_⟩
        · simp only [evalO, Res.bind_ok] at ev
          obtain ⟨⟨v, env1⟩, ev1, e2⟩ := ev
          cases v <;> simp only [reduceCtorEq] at e2
          cases e2
          refine s1.ok _ _ ev1 _ fun S1 w F g1 => ?_
          obtain ⟨d, F', rp⟩ := RepT.any g1.tmp.rep
          cases rp
          exact ⟨_, rfl, hQ S1 (h0 ▸ g1.stepd)⟩
        · simp only [evalO, Res.bind_exc] at ev
          rcases ev with ev | ⟨⟨v, _⟩, _, ev⟩
          · exact s1.exc x ev _ (h0 ▸ hQ)
          · cases v <;> exact nomatch ev
theorem WO.imp {l : Option Expr} {Q Q' : Option Int → Hp → Prop} (w : WO X l σ H Q) (h : ∀ i H, Q i H → Q' i H) : WO X l σ H Q' := by
  cases l with
  | none => exact h _ _ w
  | some e => exact WE.imp w fun v H1 ⟨i, e, q⟩ => ⟨i, e, h _ _ q⟩
theorem snd_slc {d : Nat} {a : E} {lo hi : Option E} (ha : SndE T a) (hl : ∀ e, lo = some e → SndE T e) (hh : ∀ e, hi = some e → SndE T e) : SndE T (.slc d a lo hi) := by
  have ih := snd_iff.mp ha
  refine snd_iff.mpr fun X G ER W k g e he σ S r Γ' ht o => ?_
  simp only [meE] at he
  split at he
  · rename_i q l h p2 pos
    simp only [Bool.and_eq_true] at he
    obtain ⟨⟨he1, he2⟩, he3⟩ := he
    simp only [typE] at ht
    cases t1 : typE T a S.G with
    | none => simp [t1] at ht
    | some p1 =>
      obtain ⟨r1, Γ1⟩ := p1
      simp only [t1] at ht
      split at ht
      · rename_i hc
        simp only [Bool.and_eq_true, List.isEmpty_iff] at hc
        obtain ⟨⟨⟨c1, c2⟩, c3⟩, c4⟩ := hc
        have s1 := ih X G ER W k g q he1 σ S r1 Γ1 t1 o
        have tE : tchE (.slc d a lo hi) = tchE a := by simp [tchE, c1, c2]
        have key : ∀ v env', evalE G (.slc d a lo hi) S.env = .ok (v, env') → ∀ Q : VK, (∀ (S1 : ASt) (v1 : PV) (x : V) (F : List Addr) (lo' hi' : Option Int), slcP v1 lo' hi' = .ok v → Stepd X.K σ (tchE a) S env' Γ1 S1 → Tmp X.K S1 r1.1 r1.2 v1 x F → SlAny X x lo' hi' S1.H Q) →
            WE X (.Subscript q (.Slice l h none p2) pos) σ S.H Q := by
          intro v env' ev Q hk
          simp only [evalE, Res.bind_ok] at ev
          obtain ⟨⟨v1, env1⟩, ev1, ⟨i1, env2⟩, ev2, ⟨i2, env3⟩, ev3, v2, hv, e4⟩ := ev
          cases e4
          refine .of (pe_slice slAny pe_we po_wo po_wo) (s1.ok _ _ ev1 _ fun S1 x F g1 => ?_)
          have p1 := part_of hl g (lo := lo) (l := l) (S := S1) he2 (by rw [g1.g]; exact c3) c1 g1.ok
          refine p1.ok i1 env2 (by rw [g1.env]; exact ev2) _ fun S2 g2 => ?_
          have p2 := part_of hh g (lo := hi) (l := h) (S := S2) he3 (by rw [g2.g, g1.g]; exact c4) c2 g2.ok
          refine p2.ok i2 env3 (by rw [g2.env]; exact ev3) _ fun S3 g3 => ?_
          have tm := (g1.tmp.step g1.ok g2.stp fun _ _ => by simp).step g2.ok g3.stp fun _ _ => by simp
          exact hk S3 v1 x F i1 i2 hv ⟨g3.env, by rw [g3.g, g2.g, g1.g], (g1.stp.trans (g2.stp.mono fun _ h => nomatch h)).trans (g3.stp.mono fun _ h => nomatch h), g3.ok⟩ tm
        refine ⟨fun v env' ev Q hQ => key v env' ev Q fun S1 v1 x F lo' hi' hv g1 tm => ?_, fun y ev Q hQ => ?_⟩
        · split at ht
          · rename_i hcl
            cases ht
            have hcl' : r1.1 = .cl := by simpa [isCl] using hcl
            obtain ⟨ru, hop, hru⟩ := sl_val hv (tm.shal (by simp [shal, hcl']))
            refine ⟨ru, hop, hru Q fun w H' m => ?_⟩
            have cl : ∃ n, clean n v1 = true := by
              have := tm.rep
              rw [hcl'] at this
              exact this.2.1
            obtain ⟨S3, F3, e4, g3⟩ := Got.madeB (τ := .cl) g1.env g1.g g1.stp g1.ok m (.inl ⟨rfl, slcP_clean hv cl⟩)
            rw [← e4]
            exact hQ S3 _ F3 (tE ▸ g3)
          · split at ht
            · rename_i hcl
              simp only [Bool.and_eq_true, decide_eq_true_eq] at hcl
              cases ht
              obtain ⟨ru, hop, hru⟩ := sl_val hv (tm.shal hcl.1)
              refine ⟨ru, hop, hru Q fun w H' m => ?_⟩
              obtain ⟨S3, F3, e4, g3⟩ := Got.madeB (τ := .d d) g1.env g1.g g1.stp g1.ok m (.inr (dCase hcl.2))
              rw [← e4]
              exact hQ S3 _ F3 (tE ▸ g3)
            · cases ht
        · simp only [evalE, Res.bind_exc] at ev
          rcases ev with ev | ⟨⟨v1, env1⟩, ev1, ev⟩
          · exact .of (pe_slice slAny pe_we po_wo po_wo) (s1.exc y ev _ (tE ▸ hQ))
          · refine .of (pe_slice slAny pe_we po_wo po_wo) (s1.ok _ _ ev1 _ fun S1 x F g1 => ?_)
            have hQ : XW ER W σ (tchE a) S y := tE ▸ hQ
            have p1 := part_of hl g (lo := lo) (l := l) (S := S1) he2 (by rw [g1.g]; exact c3) c1 g1.ok
            rcases ev with ev | ⟨⟨i1, env2⟩, ev2, ev⟩
            · exact p1.exc y (by rw [g1.env]; exact ev) _ (hQ.step g1.stp fun _ h => nomatch h)
            · refine p1.ok i1 env2 (by rw [g1.env]; exact ev2) _ fun S2 g2 => ?_
              have p2 := part_of hh g (lo := hi) (l := h) (S := S2) he3 (by rw [g2.g, g1.g]; exact c4) c2 g2.ok
              rcases ev with ev | ⟨⟨i2, env3⟩, ev3, ev⟩
              · exact p2.exc y (by rw [g2.env]; exact ev) _ (hQ.step (g1.stp.trans (g2.stp.mono fun _ h => nomatch h)) fun _ h => nomatch h)
              · rcases ev with ev | ⟨_, _, ev⟩
                · exact absurd ev slcP_exc
                · cases ev
      · cases ht
  · cases he
theorem snd_rev {d : Nat} {a : E} (ha : SndE T a) : SndE T (.rev d a) := by
  have ih := snd_iff.mp ha
  refine snd_iff.mpr fun X G ER W k g e he σ S r Γ' ht o => ?_
  simp only [meE] at he
  split at he
  · rename_i q kk p1 p2 p3 pos
    simp only [typE] at ht
    cases t1 : typE T a S.G with
    | none => simp [t1] at ht
    | some p1 =>
      obtain ⟨r1, Γ1⟩ := p1
      simp only [t1] at ht
      have s1 := ih X G ER W k g q he σ S r1 Γ1 t1 o
      have tE : tchE (.rev d a) = tchE a := by simp [tchE]
      refine ⟨fun v env' ev Q hQ => ?_, fun y ev Q hQ => ?_⟩
      · simp only [evalE, Res.bind_ok] at ev
        obtain ⟨⟨v1, env1⟩, ev1, v2, hv, e4⟩ := ev
        cases e4
        cases v1 <;> simp only [revP, reduceCtorEq] at hv
        rename_i xs
        cases hv
        refine .of (pe_revL pe_we) (s1.ok _ _ ev1 _ fun S1 x F g1 => ?_)
        have sh : shal r1 = true ∧ (r, Γ') = ((.d d, none), Γ1) ∧ d ≤ 1 := by
          split at ht
          · rename_i hcl
            have hcl' : r1.1 = .cl := by simpa [isCl] using hcl
            have := g1.tmp.rep
            rw [hcl'] at this
            obtain ⟨_, ⟨n, c⟩, _⟩ := this
            cases n <;> simp [clean] at c
          · split at ht
            · rename_i hcl
              simp only [Bool.and_eq_true, decide_eq_true_eq] at hcl
              cases ht
              exact ⟨hcl.1, rfl, hcl.2⟩
            · cases ht
        obtain ⟨s2, s3, s4⟩ := sh
        cases s3
        obtain ⟨p, ws, rfl, h1, h2⟩ := (g1.tmp.shal s2).lstI
        refine ⟨p, ws, rfl, .inl h1, fun t ht => ?_⟩
        obtain ⟨S3, F3, e4, g3⟩ := Got.madeB (τ := .d d) g1.env g1.g g1.stp g1.ok (.lst ht (p_reps0 (Paired.rev' (reps0_p h2)))) (.inr (dCase s4))
        rw [← e4]
        exact hQ S3 _ F3 (tE ▸ g3)
      · simp only [evalE, Res.bind_exc] at ev
        rcases ev with ev | ⟨⟨v1, _⟩, _, ev⟩
        · exact .of (pe_revL pe_we) (s1.exc y ev _ (tE ▸ hQ))
        · rcases ev with ev | ⟨_, _, ev⟩
          · cases v1 <;> exact nomatch ev
          · cases ev
  · cases he
end
end OI
set_option maxRecDepth 100000
set_option maxHeartbeats 4000000
/-! OI16: built-in functions. -/
namespace OI
open PySem PySem.Spec PyProof.Rows L2
section
variable {T : List FnA} {X : Cx} {K : PySem.W.Frag} {σ σ' : St} {S S' : ASt} {M : List Nat} {H : Hp} {Z : Addr → Prop}
def fnOf : Prim → Value
  | .int => .type "int"
  | .str => .type "str"
  | .tuple => .type "tuple"
  | .list => .type "list"
  | .len => .builtin "len"
  | .sorted => .builtin "sorted"
  | .sum => .builtin "sum"
  | .min => .builtin "min"
  | .max => .builtin "max"
  | .abs => .builtin "abs"
  | .all => .builtin "all"
  | .any => .builtin "any"
  | _ => .none
def CallAny (X : Cx) (f : Value) : List V → Hp → VK → Prop := fun xs H Q => ∃ r, CallR X f r ∧ r xs H Q
theorem callAny {f : Value} : CallR X f (CallAny X f) := fun pins s σ H xs us Q I rv ⟨r, o, q⟩ => o pins s σ H xs us Q I rv q
theorem pe_prim {p : Prim} {x : Str} {e : Expr} {es : List Expr} {t : TA} {p1 pos : Pos} (hf : fnOf p ≠ .none) (hx : Str.ofString p.nm = x) (hg : Gl X x) (hm : X.mg x = none) (ha : PA X (e :: es) t) (hp : (e :: es).all plainX = true) : PE X (.Call (.Name x p1) (e :: es) [] pos) (tCB (CallAny X (fnOf p)) t) := by
  subst hx
  have he : starEach (e :: es) X.env = (false, eval e X.env) :: starEach es X.env := star_plain (by simp only [List.all_cons, Bool.and_eq_true] at hp; exact hp.1)
  have hpl : (backTo pos (starEach es X.env)).any (·.1) = false := by
    simp only [List.all_cons, Bool.and_eq_true] at hp
    have : ∀ es : List Expr, es.all plainX = true → (backTo pos (starEach es X.env)).any (·.1) = false := by
      intro es
      induction es with
      | nil => intro _; rfl
      | cons a as ih =>
        intro h
        simp only [List.all_cons, Bool.and_eq_true] at h
        rw [star_plain h.1]
        exact ih h.2
    exact this es hp.2
  cases p <;> first
    | (exact absurd rfl hf)
    | (exact pe_callB callAny hg hm rfl ha (by decide) (by decide) he hpl)
    | (exact pe_callTy callAny hg hm rfl ha (by decide) (by decide) he hpl)
def CallMk (X : Cx) (f : Value) (H : Hp) (Z : Addr → Prop) (v : PV) (xs : List V) : Prop := ∀ Q : VK, (∀ w H', Made X.K H Z v w H' → Q w H') → CallAny X f xs H Q
theorem ints_rep {d : Nat} : ∀ {xs : List PV} {ns : List Int} {ws : List V} {F : List Addr}, intsOf xs = some ns → Reps K H Z d xs ws F → ws = ns.map V.int ∧ xs = ns.map PV.int
  | [], ns, _, _, e, h => by cases h; cases e; exact ⟨rfl, rfl⟩
  | x :: xs, ns, _, _, e, h => by
    cases x <;> simp only [intsOf, reduceCtorEq] at e
    obtain ⟨ms, e1, rfl⟩ := Option.map_eq_some_iff.mp e
    cases h with
    | cons h1 h2 h3 =>
      cases h1
      obtain ⟨a, b⟩ := ints_rep e1 h2
      exact ⟨by rw [a]; rfl, by rw [b]; rfl⟩
theorem bools_rep {d : Nat} : ∀ {xs : List PV} {ns : List Bool} {ws : List V} {F : List Addr}, boolsOf xs = some ns → Reps K H Z d xs ws F → ws = ns.map V.bl
  | [], ns, _, _, e, h => by cases h; cases e; rfl
  | x :: xs, ns, _, _, e, h => by
    cases x <;> simp only [boolsOf, reduceCtorEq] at e
    obtain ⟨ms, e1, rfl⟩ := Option.map_eq_some_iff.mp e
    cases h with
    | cons h1 h2 h3 =>
      cases h1
      rw [bools_rep e1 h2]; rfl
theorem foldl_maxI : ∀ (ns : List Int) (n : Int), (ns.foldl maxI n ∈ n :: ns) ∧ ∀ y ∈ n :: ns, y ≤ ns.foldl maxI n
  | [], n => by simp
  | m :: ns, n => by
    obtain ⟨a, b⟩ := foldl_maxI ns (maxI n m)
    have h1 : maxI n m = n ∨ maxI n m = m := by unfold maxI; split <;> simp
    have h2 : n ≤ maxI n m ∧ m ≤ maxI n m := by unfold maxI; split <;> omega
    have h3 := b (maxI n m) (by simp)
    simp only [List.foldl_cons]
    refine ⟨?_, fun y hy => ?_⟩
    · rcases List.mem_cons.mp a with a | a
      · rw [a]; rcases h1 with h1 | h1 <;> rw [h1] <;> simp
      · simp [a]
    · rcases List.mem_cons.mp hy with rfl | hy
      · omega
      · rcases List.mem_cons.mp hy with rfl | hy
        · omega
        · exact b y (by simp [hy])
theorem foldl_minI : ∀ (ns : List Int) (n : Int), (ns.foldl minI n ∈ n :: ns) ∧ ∀ y ∈ n :: ns, ns.foldl minI n ≤ y
  | [], n => by simp
  | m :: ns, n => by
    obtain ⟨a, b⟩ := foldl_minI ns (minI n m)
    have h1 : minI n m = n ∨ minI n m = m := by unfold minI; split <;> simp
    have h2 : minI n m ≤ n ∧ minI n m ≤ m := by unfold minI; split <;> omega
    have h3 := b (minI n m) (by simp)
    simp only [List.foldl_cons]
    refine ⟨?_, fun y hy => ?_⟩
    · rcases List.mem_cons.mp a with a | a
      · rw [a]; rcases h1 with h1 | h1 <;> rw [h1] <;> simp
      · simp [a]
    · rcases List.mem_cons.mp hy with rfl | hy
      · omega
      · rcases List.mem_cons.mp hy with rfl | hy
        · omega
        · exact b y (by simp [hy])
theorem Shal.top {v : PV} {w : V} (h : Shal K H Z v w) : Top K H v w := by
  cases h with
  | at_ h h1 h2 h3 => exact (h Z 0).top
  | tup a b => exact .tup a b.length
  | lst a b => exact .lst a b.length
  | dct a b c => exact .dct a b c.length
theorem PK1.rep {k : PV} {κ : Key} {d : Nat} (h : PK1 k κ) : Rep K H Z d k (kV κ) [] := by
  cases h with
  | int i => exact .int i
  | str i => exact .str i
theorem PKs1.reps {ks : List PV} {κ : List Key} {d : Nat} (h : PKs1 ks κ) : Reps K H Z d ks (κ.map kV) [] := by
  induction h with
  | nil => exact .nil
  | cons a _ ih => exact Reps.cons (F := []) (G := []) a.rep ih fun _ z => nomatch z
theorem len_call {v : PV} {x : V} {n : Nat} (h : Top X.K H v x) (hn : primP .len [v] = .ok (.int n)) : CallMk X (.builtin "len") H Z (.int n) [x] := by
  intro Q q
  cases h <;> simp only [primP, reduceCtorEq, Res.ok.injEq, PV.int.injEq] at hn
  · obtain ⟨hz, hn⟩ := need_ok.mp hn
    cases hn
    exact ⟨_, call_len, _, _, rfl, ⟨by rw [sizeLine_eq]; exact hz, rfl⟩, q _ _ .int⟩
  · rename_i h1 h2
    rw [h2] at hn
    exact ⟨_, call_len, _, _, rfl, .inr ⟨_, .of h1, rfl⟩, by rw [hn]; exact q _ _ .int⟩
  · rename_i h1 h2
    rw [h2] at hn
    exact ⟨_, call_len, _, _, rfl, .inl ⟨_, .inl h1, rfl⟩, by rw [hn]; exact q _ _ .int⟩
  · rename_i h1 h2 h3
    have e := h2.lens
    cases h2 with
    | @k kvs ks h4 h5 => exact ⟨_, call_lenD, _, _, rfl, h1, by rw [← List.length_map (f := (·.2)), ← e, hn]; exact q _ _ .int⟩
    | @t kvs ks h4 h5 => exact ⟨_, call_len_dT, _, _, rfl, h1, by rw [← List.length_map (f := (·.2)), ← e, hn]; exact q _ _ .int⟩
theorem prim_len {vs : List PV} {v : PV} (h : primP .len vs = .ok v) : ∃ (u : PV) (n : Nat), vs = [u] ∧ v = .int (n : Int) := by
  unfold primP at h
  split at h
  all_goals first
    | (obtain ⟨_, h⟩ := need_ok.mp h; cases h; exact ⟨_, _, rfl, rfl⟩)
    | (cases h; exact ⟨_, _, rfl, rfl⟩)
    | (exfalso; simp_all; done)
/-! sorting -/
def insI (x : Int) : List Int → List Int
  | [] => [x]
  | y :: ys => if y < x then y :: insI x ys else x :: y :: ys
theorem insI_perm (x : Int) : ∀ ys, (insI x ys).Perm (x :: ys)
  | [] => .refl _
  | y :: ys => by
    unfold insI
    split
    · exact ((insI_perm x ys).cons y).trans (.swap x y ys)
    · exact .refl _
theorem insI_sorted (x : Int) : ∀ ys, ys.Pairwise (· ≤ ·) → (insI x ys).Pairwise (· ≤ ·)
  | [], _ => by simp [insI]
  | y :: ys, h => by
    unfold insI
    rw [List.pairwise_cons] at h
    split
    · rw [List.pairwise_cons]
      refine ⟨fun z hz => ?_, insI_sorted x ys h.2⟩
      rcases List.mem_cons.mp ((insI_perm x ys).mem_iff.mp hz) with rfl | hz
      · omega
      · exact h.1 z hz
    · rw [List.pairwise_cons]
      refine ⟨fun z hz => ?_, List.pairwise_cons.mpr h⟩
      rcases List.mem_cons.mp hz with rfl | hz
      · omega
      · have := h.1 z hz; omega
theorem insP_int (x : Int) : ∀ ys : List Int, insP (.int x) (ys.map PV.int) = (insI x ys).map PV.int
  | [] => rfl
  | y :: ys => by
    simp only [List.map_cons, insP, insI, ltP]
    by_cases h : y < x
    · simp [h, insP_int x ys]
    · simp [h]
theorem sortP_int : ∀ ns : List Int, ∃ ms : List Int, sortP (ns.map PV.int) = ms.map PV.int ∧ ms.Perm ns ∧ ms.Pairwise (· ≤ ·)
  | [] => ⟨[], rfl, .refl _, .nil⟩
  | n :: ns => by
    obtain ⟨ms, e, p, s⟩ := sortP_int ns
    refine ⟨insI n ms, ?_, (insI_perm n ms).trans (p.cons n), insI_sorted n ms s⟩
    have e' : List.foldr insP [] (ns.map PV.int) = ms.map PV.int := e
    simp only [sortP, List.map_cons, List.foldr_cons, e']
    exact insP_int n ms
theorem sorted_uniq : ∀ {a b : List Int}, a.Perm b → a.Pairwise (· ≤ ·) → b.Pairwise (· ≤ ·) → a = b
  | [], b, p, _, _ => (List.Perm.nil_eq p)
  | x :: a, [], p, _, _ => absurd p.length_eq (by simp)
  | x :: a, y :: b, p, ha, hb => by
    rw [List.pairwise_cons] at ha hb
    have e : x = y := by
      have h1 := p.mem_iff.mp (List.mem_cons_self : x ∈ x :: a)
      have h2 := p.mem_iff.mpr (List.mem_cons_self : y ∈ y :: b)
      rcases List.mem_cons.mp h1 with h1 | h1
      · exact h1
      · rcases List.mem_cons.mp h2 with h2 | h2
        · exact h2.symm
        · have := ha.1 y h2; have := hb.1 x h1; omega
    subst e
    rw [sorted_uniq (p.cons_inv) ha.2 hb.2]
theorem pick_int {p : Prop} [Decidable p] {a b : Int} : (if decide p = true then V.int a else V.int b) = V.int (if p then a else b) := by
  by_cases h : p <;> simp [h]
theorem max3_eq {a b c : Int} : nuMax3 (.int a) (.int b) (.int c) = some (.int (maxI (maxI a b) c)) := by
  simp only [nuMax3, nuMax2, nuLt, nuCB, Option.map_some, Option.bind_some, pick_int]
  rfl
theorem min3_eq {a b c : Int} : nuMin3 (.int a) (.int b) (.int c) = some (.int (minI (minI a b) c)) := by
  simp only [nuMin3, nuMin2, nuLt, nuCB, Option.map_some, Option.bind_some, pick_int]
  rfl
theorem ints_reps : ∀ ms : List Int, Reps K H Z 0 (ms.map PV.int) (ms.map V.int) []
  | [] => .nil
  | m :: ms => Reps.cons (F := []) (G := []) (.int m) (ints_reps ms) fun _ z => nomatch z
theorem ints_keys : ∀ {ks : List PV} {ns : List Int} {κ : List Key}, intsOf ks = some ns → PKs1 ks κ → κ = ns.map Sum.inl ∧ ks = ns.map PV.int
  | [], ns, _, e, h => by cases h; cases e; exact ⟨rfl, rfl⟩
  | x :: xs, ns, _, e, h => by
    cases x <;> simp only [intsOf, reduceCtorEq] at e
    obtain ⟨ms, e1, rfl⟩ := Option.map_eq_some_iff.mp e
    cases h with
    | cons h1 h2 =>
      cases h1
      obtain ⟨a, b⟩ := ints_keys e1 h2
      exact ⟨by rw [a]; rfl, by rw [b]; rfl⟩
/-- the function, by what it is given -/
theorem prim_val {p : Prim} {vs : List PV} {v : PV} {xs : List V} (hc : X.calm = true) (hp : p ≠ .len) (hv : primP p vs = .ok v) (h : Paired (Shal X.K H Z) vs xs) : fnOf p ≠ .none ∧ CallMk X (fnOf p) H Z v xs := by
  unfold primP at hv
  split at hv
  all_goals first
    | (exact absurd rfl hp)
    | skip
  · -- tuple of a list
    cases hv
    obtain _ | ⟨h1, ⟨⟩⟩ := h
    obtain ⟨a, ws, rfl, e1, e2⟩ := h1.lstI
    exact ⟨by simp [fnOf], fun Q q => ⟨_, call_tuple_of, a, ws, rfl, .inl ⟨.inl e1, fun l hl => q _ _ (.tup hl e2)⟩⟩⟩
  · cases hv
    obtain _ | ⟨h1, ⟨⟩⟩ := h
    obtain ⟨a, ws, rfl, e1, e2⟩ := h1.tupI
    exact ⟨by simp [fnOf], fun Q q => ⟨_, call_tuple_of, a, ws, rfl, .inr ⟨.of e1, q _ _ (.tupOld e1 e2)⟩⟩⟩
  · cases hv
    obtain _ | ⟨h1, ⟨⟩⟩ := h
    obtain ⟨a, ws, rfl, e1, e2⟩ := h1.lstI
    exact ⟨by simp [fnOf], fun Q q => ⟨_, call_list_of, a, ws, rfl, .inl (.inl e1), fun l hl => q _ _ (.lst hl e2)⟩⟩
  · cases hv
    obtain _ | ⟨h1, ⟨⟩⟩ := h
    obtain ⟨a, ws, rfl, e1, e2⟩ := h1.tupI
    exact ⟨by simp [fnOf], fun Q q => ⟨_, call_list_of, a, ws, rfl, .inr (.of e1), fun l hl => q _ _ (.lst hl e2)⟩⟩
  · cases hv
    obtain _ | ⟨h1, ⟨⟩⟩ := h
    obtain ⟨a, u, ws, rfl, e1, e2, e3⟩ := h1.dctI
    refine ⟨by simp [fnOf], fun Q q => ?_⟩
    cases e2 with
    | @k kvs ks h4 h5 =>
      refine ⟨_, call_listD hc, a, kvs, rfl, .of e1, fun l hl => q _ _ ?_⟩
      have e : (kvs.map fun kv => kV kv.1) = (kvs.map (·.1)).map kV := by simp
      rw [e]
      exact .lst hl h4.reps
    | @t kvs ks h4 h5 =>
      refine ⟨_, call_list_dT hc, a, kvs, rfl, .of e1, fun l bs hl hb => q _ _ (.lst hl (p_reps0 ?_))⟩
      have key : ∀ {kvs : List (List Key × V)} {ks : List PV} {bs : List Addr}, PKs2 ks (kvs.map (·.1)) → Paired (fun (p : List Key × V) b => H b = some (.tup (p.1.map kV))) kvs bs → Paired (fun x w => Rep X.K H Z 0 x w []) ks (bs.map V.ref) := by
        intro kvs
        induction kvs with
        | nil => intro ks bs a b; cases a; cases b; exact .nil
        | cons p kvs ih =>
          intro ks bs a b
          cases a with
          | cons a1 a2 =>
            cases b with
            | cons b1 b2 =>
              cases a1 with
              | tup a1 => exact .cons (.tup0 b1 a1.reps) (ih a2 b2)
      exact key h4 hb
  · -- sorted
    obtain ⟨hs, hv⟩ := need_ok.mp hv
    cases hv
    obtain _ | ⟨h1, ⟨⟩⟩ := h
    obtain ⟨a, ws, rfl, e1, e2⟩ := h1.lstI
    refine ⟨by simp [fnOf], fun Q q => ?_⟩
    rename_i ys
    obtain ⟨ns, en⟩ := Option.isSome_iff_exists.mp hs
    obtain ⟨rfl, rfl⟩ := ints_rep en e2
    refine ⟨_, cr_sortedI, a, ns, rfl, .inl e1, fun ms l pm sm hl => ?_⟩
    obtain ⟨ms', e, p', s'⟩ := sortP_int ns
    have e5 := sorted_uniq (pm.trans p'.symm) sm s'
    subst e5
    rw [e] at q
    exact q _ _ (.lst hl (ints_reps _))
  · obtain ⟨⟨hs, h64⟩, hv⟩ := need_ok.mp hv
    cases hv
    obtain _ | ⟨h1, ⟨⟩⟩ := h
    obtain ⟨a, u, ws, rfl, e1, e2, e3⟩ := h1.dctI
    refine ⟨by simp [fnOf], fun Q q => ?_⟩
    cases e2 with
    | @k kvs ks h4 h5 =>
      obtain ⟨ns, en⟩ := Option.isSome_iff_exists.mp hs
      obtain ⟨e6, rfl⟩ := ints_keys en h4
      refine ⟨_, call_sortedDI hc, a, kvs, ns, rfl, .of e1, e6, by simpa using h64, fun ms l pm sm hl => ?_⟩
      obtain ⟨ms', e, p', s'⟩ := sortP_int ns
      have e5 := sorted_uniq (pm.trans p'.symm) sm s'
      subst e5
      rw [e] at q
      exact q _ _ (.lst hl (ints_reps _))
  · -- sum
    split at hv
    · cases hv
      obtain _ | ⟨h1, ⟨⟩⟩ := h
      obtain ⟨a, ws, rfl, e1, e2⟩ := h1.lstI
      obtain ⟨rfl, rfl⟩ := ints_rep (by assumption) e2
      exact ⟨by simp [fnOf], fun Q q => ⟨_, cr_sum hc, a, _, rfl, .inl e1, q _ _ .int⟩⟩
    · cases hv
  · split at hv
    · cases hv
      obtain _ | ⟨h1, ⟨⟩⟩ := h
      obtain ⟨a, ws, rfl, e1, e2⟩ := h1.lstI
      have e := bools_rep (by assumption) e2
      subst e
      exact ⟨by simp [fnOf], fun Q q => ⟨_, cr_all hc, a, _, rfl, .inl e1, q _ _ .bl⟩⟩
    · cases hv
  · split at hv
    · cases hv
      obtain _ | ⟨h1, ⟨⟩⟩ := h
      obtain ⟨a, ws, rfl, e1, e2⟩ := h1.lstI
      have e := bools_rep (by assumption) e2
      subst e
      exact ⟨by simp [fnOf], fun Q q => ⟨_, cr_any hc, a, _, rfl, .inl e1, q _ _ .bl⟩⟩
    · cases hv
  · -- max
    cases hv
    obtain _ | ⟨h1, _ | ⟨h2, ⟨⟩⟩⟩ := h
    rw [h1.int, h2.int]
    exact ⟨by simp [fnOf], fun Q q => ⟨_, call_max2 hc, _, _, rfl, q _ _ .int⟩⟩
  · cases hv
    obtain _ | ⟨h1, _ | ⟨h2, _ | ⟨h3, ⟨⟩⟩⟩⟩ := h
    rw [h1.int, h2.int, h3.int]
    refine ⟨by simp [fnOf], fun Q q => ⟨_, call_max3Nu hc, _, _, _, _, rfl, ?_, q _ _ .int⟩⟩
    exact max3_eq
  · split at hv
    · cases hv
      obtain _ | ⟨h1, ⟨⟩⟩ := h
      obtain ⟨a, ws, rfl, e1, e2⟩ := h1.lstI
      obtain ⟨rfl, rfl⟩ := ints_rep (by assumption) e2
      rename_i n ns _
      obtain ⟨m1, m2⟩ := foldl_maxI ns n
      refine ⟨by simp [fnOf], fun Q q => ⟨_, cr_max hc, a, _, rfl, .inl e1, by simp, fun m hm hle => ?_⟩⟩
      have e : m = ns.foldl maxI n := by
        have h1 := m2 m hm
        have h2 := hle _ m1
        omega
      rw [e]
      exact q _ _ .int
    · cases hv
  · cases hv
    obtain _ | ⟨h1, _ | ⟨h2, ⟨⟩⟩⟩ := h
    rw [h1.int, h2.int]
    exact ⟨by simp [fnOf], fun Q q => ⟨_, call_min2 hc, _, _, rfl, q _ _ .int⟩⟩
  · cases hv
    obtain _ | ⟨h1, _ | ⟨h2, _ | ⟨h3, ⟨⟩⟩⟩⟩ := h
    rw [h1.int, h2.int, h3.int]
    refine ⟨by simp [fnOf], fun Q q => ⟨_, call_min3Nu hc, _, _, _, _, rfl, ?_, q _ _ .int⟩⟩
    exact min3_eq
  · split at hv
    · cases hv
      obtain _ | ⟨h1, ⟨⟩⟩ := h
      obtain ⟨a, ws, rfl, e1, e2⟩ := h1.lstI
      obtain ⟨rfl, rfl⟩ := ints_rep (by assumption) e2
      rename_i n ns _
      obtain ⟨m1, m2⟩ := foldl_minI ns n
      refine ⟨by simp [fnOf], fun Q q => ⟨_, cr_min hc, a, _, rfl, .inl e1, by simp, fun m hm hle => ?_⟩⟩
      have e : m = ns.foldl minI n := by
        have h1 := m2 m hm
        have h2 := hle _ m1
        omega
      rw [e]
      exact q _ _ .int
    · cases hv
  · cases hv
    obtain _ | ⟨h1, ⟨⟩⟩ := h
    rw [h1.int]
    exact ⟨by simp [fnOf], fun Q q => ⟨_, call_abs, _, rfl, q _ _ .int⟩⟩
  · cases hv
    obtain _ | ⟨h1, ⟨⟩⟩ := h
    rw [h1.int]
    exact ⟨by simp [fnOf], fun Q q => ⟨_, call_int1, .inl ⟨_, rfl, q _ _ .int⟩⟩⟩
  · cases hv
    obtain _ | ⟨h1, ⟨⟩⟩ := h
    rw [h1.bl]
    exact ⟨by simp [fnOf], fun Q q => ⟨_, call_int1, .inr ⟨_, rfl, q _ _ .int⟩⟩⟩
  · obtain ⟨hz, hv⟩ := need_ok.mp hv
    cases hv
    obtain _ | ⟨h1, ⟨⟩⟩ := h
    rw [h1.int]
    exact ⟨by simp [fnOf], fun Q q => ⟨_, call_str_int, _, rfl, hz, q _ _ .str⟩⟩
  · cases hv
end
end OI
set_option maxRecDepth 100000
set_option maxHeartbeats 4000000
/-! OI17: calls of built-in functions. -/
namespace OI
open PySem PySem.Spec PyProof.Rows L2
section
variable {T : List FnA} {X : Cx} {K : PySem.W.Frag} {σ σ' : St} {S S' : ASt} {M : List Nat} {H : Hp} {Z : Addr → Prop}
theorem Tmps.shals {rs : List TR} {vs : List PV} {ws : List V} {Fl : List (List Addr)} (h : Tmps K S rs vs ws Fl) (hc : rs.all shal = true) : Paired (Shal K S.H S.Z) vs ws := by
  induction h with
  | nil => exact .nil
  | @cons r rs v vs w ws F Fl t _ dj ih =>
    simp only [List.all_cons, Bool.and_eq_true] at hc
    exact .cons (t.shal hc.1) (ih hc.2)
theorem glB_ok {sc : Scope} {x : Str} (h : glB sc x = true) : sc.names.lookup x = some .globalImplicit ∧ (x == ("__debug__" : Str)) = false := by
  simp only [glB, plainName, Bool.and_eq_true, decide_eq_true_eq, Bool.not_eq_true'] at h
  exact ⟨h.1, h.2.1⟩
theorem glB_gl {x : Str} (h : glB X.env.scope x = true) : Gl X x := by
  exact (glB_ok h).1
theorem me_call {N : List Str} {sc : Scope} {p : Prim} {d : Nat} {args : List E} {e : Expr} (he : meE T N sc (.prim p d args) e = true) : ∃ x p1 q qs pos, e = .Call (.Name x p1) (q :: qs) [] pos ∧ Str.ofString p.nm = x ∧ glB sc x = true ∧ meEs T N sc args (q :: qs) = true := by
  simp only [meE] at he
  split at he
  · rename_i x p1 qs pos
    simp only [Bool.and_eq_true, decide_eq_true_eq] at he
    obtain ⟨⟨⟨rfl, h2⟩, h3⟩, h4⟩ := he
    cases qs with
    | nil => simp at h3
    | cons q qs => exact ⟨_, _, _, _, _, rfl, rfl, h2, h4⟩
  · cases he
theorem primP_exc {p : Prim} {vs : List PV} {x : PV} : primP p vs ≠ .exc x := by
  intro h
  unfold primP at h
  split at h <;> first
    | (obtain ⟨_, h⟩ := need_exc.mp h; cases h; done)
    | (split at h <;> cases h; done)
    | (cases h; done)
theorem prim_clean {p : Prim} {vs : List PV} {v : PV} (h1 : p ≠ .list) (h2 : p ≠ .sorted) (h3 : p ≠ .tuple) (h : primP p vs = .ok v) : ∃ n, clean n v = true := by
  unfold primP at h
  split at h <;> first
    | (exact absurd rfl h1)
    | (exact absurd rfl h2)
    | (exact absurd rfl h3)
    | (obtain ⟨_, h⟩ := need_ok.mp h; cases h; exact ⟨1, rfl⟩)
    | (cases h; exact ⟨1, rfl⟩)
    | (split at h <;> cases h; exact ⟨1, rfl⟩)
    | (cases h; done)
theorem gives_cases {p : Prim} {d : Nat} {rs : List TR} {τ : Tp} (h : p.gives d rs = some τ) : fnOf p ≠ .none ∧ (p = .len ∧ τ = .cl ∨ p ≠ .len ∧ rs.all shal = true ∧
    ((p ≠ .list ∧ p ≠ .sorted ∧ p ≠ .tuple ∧ τ = .cl) ∨ (p = .tuple ∧ rs.all isCl = true ∧ τ = .cl) ∨ τ = .d 0 ∨ τ = .d 1)) := by
  cases p <;> simp only [Prim.gives, reduceCtorEq] at h <;> refine ⟨by simp [fnOf], ?_⟩
  case len => exact .inl ⟨rfl, by simpa using h.symm⟩
  case tuple =>
    refine .inr ⟨by simp, ?_⟩
    split at h
    · rename_i hc
      cases h
      exact ⟨isCl_shal hc, .inr (.inl ⟨rfl, hc, rfl⟩)⟩
    · split at h
      · cases h
        exact ⟨by assumption, .inr (.inr (.inl rfl))⟩
      · cases h
  case list =>
    refine .inr ⟨by simp, ?_⟩
    split at h
    · rename_i hc
      cases h
      exact ⟨(Bool.and_eq_true_iff.mp hc).1, .inr (.inr (dCase (of_decide_eq_true (Bool.and_eq_true_iff.mp hc).2)))⟩
    · cases h
  case sorted =>
    refine .inr ⟨by simp, ?_⟩
    split at h
    · rename_i hc
      cases h
      exact ⟨(Bool.and_eq_true_iff.mp hc).1, .inr (.inr (dCase (of_decide_eq_true (Bool.and_eq_true_iff.mp hc).2)))⟩
    · cases h
  all_goals
    refine .inr ⟨by simp, ?_⟩
    split at h
    · cases h
      exact ⟨by assumption, .inl ⟨by simp, by simp, by simp, rfl⟩⟩
    · cases h
theorem tuple_clean {vs : List PV} {v : PV} (h : primP .tuple vs = .ok v) (hc : ∀ u ∈ vs, ∃ n, clean n u = true) : ∃ n, clean n v = true := by
  unfold primP at h
  split at h
  all_goals first
    | (exfalso; simp_all; done)
    | skip
  · cases h
    obtain ⟨n, c⟩ := hc _ List.mem_cons_self
    cases n <;> simp [clean] at c
  · cases h
    exact hc _ List.mem_cons_self
theorem Gots.one {env' : Env} {Γ' : List Gt} {rs : List TR} {a : PV} {ws : List V} {Fl : List (List Addr)} (g : Gots K σ M S env' Γ' rs [a] S' ws Fl) : ∃ r x F, rs = [r] ∧ ws = [x] ∧ Fl = [F] ∧ Tmp K S' r.1 r.2 a x F := by
  have t := g.tmps
  cases t with
  | cons t1 t2 d =>
    cases t2
    exact ⟨_, _, _, rfl, rfl, rfl, t1⟩
theorem snd_prim {p : Prim} {d : Nat} {args : List E} (hs : ∀ e ∈ args, SndE T e) : SndE T (.prim p d args) := by
  have ih := snds_iff.mp (snds_of hs)
  refine snd_iff.mpr fun X G ER W k g e he σ S r Γ' ht o => ?_
  obtain ⟨x, p1, q, qs, pos, rfl, hx, hgl, he⟩ := me_call he
  simp only [typE] at ht
  cases t1 : typEs T args S.G with
  | none => simp [t1] at ht
  | some p1' =>
    obtain ⟨rs, Γ1⟩ := p1'
    simp only [t1] at ht
    obtain ⟨τ, hτ, e2⟩ := Option.map_eq_some_iff.mp ht
    cases e2
    have s1 := ih X G ER W k g (q :: qs) he σ S rs _ t1 o
    have tE : tchE (.prim p d args) = tchEs args := by simp [tchE]
    obtain ⟨hf, hcase⟩ := gives_cases hτ
    have rule : PE X (.Call (.Name x p1) (q :: qs) [] pos) (tCB (CallAny X (fnOf p)) (WL X (q :: qs))) :=
      pe_prim hf hx (glB_gl hgl) (by rw [← hx]; exact g.free p) (pa_wl (meEs_plain he)) (meEs_plain he)
    refine ⟨fun v env' ev Q hQ => ?_, fun y ev Q hQ => ?_⟩
    · simp only [evalE, Res.bind_ok] at ev
      obtain ⟨⟨vs, env1⟩, ev1, u, hv, e3⟩ := ev
      cases e3
      refine .of rule (s1.ok _ _ ev1 _ fun S1 ws Fl g1 => ?_)
      rcases hcase with ⟨rfl, rfl⟩ | ⟨hl, hsh, hcase⟩
      · obtain ⟨u, n, rfl, rfl⟩ := prim_len hv
        obtain ⟨r1, x1, F1, rfl, rfl, rfl, tm⟩ := g1.one
        refine len_call (Z := S1.Z) (RepT.top tm.rep) hv Q fun w H' m => ?_
        obtain ⟨S3, F, e4, g3⟩ := Got.madeB (τ := .cl) g1.env g1.g g1.stp g1.ok m (.inl ⟨rfl, 1, rfl⟩)
        rw [← e4]
        exact hQ S3 _ F (tE ▸ g3)
      · refine (prim_val g.calm hl hv (g1.tmps.shals hsh)).2 Q fun w H' m => ?_
        have fin : ((τ = .cl ∧ ∃ n, clean n v = true) ∨ τ = .d 0 ∨ τ = .d 1) → Q w H' := fun hτ => by
          obtain ⟨S3, F, e4, g3⟩ := Got.madeB (τ := τ) g1.env g1.g g1.stp g1.ok m hτ
          rw [← e4]
          exact hQ S3 _ F (tE ▸ g3)
        rcases hcase with ⟨h1, h2, h3, h4⟩ | ⟨rfl, h1, h4⟩ | h4
        · exact fin (.inl ⟨h4, prim_clean h1 h2 h3 hv⟩)
        · exact fin (.inl ⟨h4, tuple_clean hv (g1.tmps.cleans h1)⟩)
        · exact fin (.inr h4)
    · simp only [evalE, Res.bind_exc] at ev
      rcases ev with ev | ⟨_, _, ev⟩
      · exact .of rule (s1.exc y ev _ (tE ▸ hQ))
      · rcases ev with ev | ⟨_, _, ev⟩
        · exact absurd ev primP_exc
        · cases ev
end
end OI
set_option maxRecDepth 100000
set_option maxHeartbeats 4000000
/-! OI18: a change within a value. -/
namespace OI
open PySem PySem.Spec PyProof.Rows L2
section
variable {T : List FnA} {X : Cx} {K : PySem.W.Frag} {σ σ' : St} {S S' : ASt} {M : List Nat} {H H' : Hp} {Z : Addr → Prop}
/-- a part replaced: what the rest needs -/
structure Chg (H H' : Hp) (Z N : Addr → Prop) (Fx Fx' : List Addr) : Prop where
  keep : Kp (fun a => a ∈ Fx) H H'
  nz : ∀ a, Z a → a ∉ Fx
  new : ∀ a ∈ Fx', a ∈ Fx ∨ N a
theorem Reps.focus {d : Nat} : ∀ {xs : List PV} {ws : List V} {F : List Addr} {j : Nat} {x : PV}, Reps K H Z d xs ws F → xs[j]? = some x →
    ∃ w Fx, ws[j]? = some w ∧ Rep K H Z d x w Fx ∧ (∀ a ∈ Fx, a ∈ F) ∧ ∀ (N Z' : Addr → Prop) (H' : Hp) (x' : PV) (w' : V) (Fx' : List Addr), (∀ a, Z a → Z' a) → (∀ a ∈ F, ¬ N a) → Chg H H' Z N Fx Fx' → Rep K H' Z' d x' w' Fx' →
      ∃ F', Reps K H' Z' d (xs.set j x') (ws.set j w') F' ∧ (∀ a ∈ F', (a ∈ F ∧ a ∉ Fx) ∨ a ∈ Fx') ∧ ∀ a ∈ Fx', a ∈ F'
  | [], _, _, j, x, _, e => by simp at e
  | y :: xs, _, _, 0, x, h, e => by
    simp only [List.getElem?_cons_zero, Option.some.injEq] at e
    subst e
    cases h with
    | @cons _ _ _ w ws F G h1 h2 h3 =>
      refine ⟨w, F, rfl, h1, fun a ha => List.mem_append_left _ ha, fun N Z' H' x' w' Fx' hzz hN c r => ⟨Fx' ++ G, ?_, fun a ha => ?_, fun a ha => List.mem_append_left _ ha⟩⟩
      · refine Reps.cons r (Reps.keep c.keep (fun a ha hb => h3 a hb ha) c.nz hzz h2) fun a ha hb => ?_
        rcases c.new a ha with z | z
        · exact h3 a z hb
        · exact hN a (List.mem_append_right _ hb) z
      · rcases List.mem_append.mp ha with ha | ha
        · exact .inr ha
        · exact .inl ⟨List.mem_append_right _ ha, fun hb => h3 a hb ha⟩
  | y :: xs, _, _, j + 1, x, h, e => by
    simp only [List.getElem?_cons_succ] at e
    cases h with
    | @cons _ _ _ w ws F G h1 h2 h3 =>
      obtain ⟨w0, Fx, e1, r1, s1, q⟩ := Reps.focus h2 e
      refine ⟨w0, Fx, by simpa using e1, r1, fun a ha => List.mem_append_right _ (s1 a ha), fun N Z' H' x' w' Fx' hzz hN c r => ?_⟩
      obtain ⟨F', r2, s2, s3⟩ := q N Z' H' x' w' Fx' hzz (fun a ha => hN a (List.mem_append_right _ ha)) c r
      refine ⟨F ++ F', ?_, fun a ha => ?_, fun a ha => List.mem_append_right _ (s3 a ha)⟩
      · refine Reps.cons (Rep.keep c.keep (fun a ha hb => h3 a ha (s1 a hb)) c.nz hzz h1) r2 fun a ha hb => ?_
        rcases s2 a hb with z | z
        · exact h3 a ha z.1
        · rcases c.new a z with z | z
          · exact h3 a ha (s1 a z)
          · exact hN a (List.mem_append_left _ ha) z
      · rcases List.mem_append.mp ha with ha | ha
        · exact .inl ⟨List.mem_append_left _ ha, fun hb => h3 a ha (s1 a hb)⟩
        · rcases s2 a ha with z | z
          · exact .inl ⟨List.mem_append_right _ z.1, z.2⟩
          · exact .inr z
/-- what stands at a path in a value, with what the whole is when it has changed -/
def Foc (K : PySem.W.Frag) (H : Hp) (Z : Addr → Prop) (n : Nat) (v : PV) (w : V) (F : List Addr) (ks : List PV) (u : PV) (wu : V) : Prop :=
  Follow H w ks wu ∧ (∀ H' : Hp, (∀ a ∈ F, ∀ o, H a = some o → H' a = some o) → Follow H' w ks wu) ∧ ∃ Fu, Rep K H Z (n - ks.length) u wu Fu ∧ (∀ a ∈ Fu, a ∈ F) ∧ ∀ (N Z' : Addr → Prop) (H' : Hp) (u' v' : PV) (Fu' : List Addr), (∀ a, Z a → Z' a) → (∀ a ∈ F, ¬ N a) → putPath v ks u' = .ok v' → Chg H H' Z N Fu Fu' → Rep K H' Z' (n - ks.length) u' wu Fu' →
    ∃ F', Rep K H' Z' n v' w F' ∧ (∀ a ∈ F', (a ∈ F ∧ a ∉ Fu) ∨ a ∈ Fu') ∧ ∀ H2 : Hp, (∀ a ∈ F', ∀ o, H' a = some o → H2 a = some o) → Follow H2 w ks wu
theorem itemP_lst {xs : List PV} {k u : PV} (h : itemP (.lst xs) k = .ok u) : ∃ (i : Int) (j : Nat), k = .int i ∧ ixP xs.length i = some j ∧ xs[j]? = some u := by
  cases k <;> simp only [itemP, reduceCtorEq] at h
  split at h
  · cases h
    rename_i e
    unfold atP at e
    obtain ⟨j, h1, h2⟩ := Option.bind_eq_some_iff.mp e
    exact ⟨_, j, rfl, h1, h2⟩
  · cases h
theorem itemP_dct {t : Bool} {ks vs : List PV} {k u : PV} (hl : ks.length = vs.length) (h : itemP (.dct t ks vs) k = .ok u) : isKey t k = true ∧ ∃ j : Nat, fndP k ks = some j ∧ vs[j]? = some u := by
  have h : need (isKey t k = true) (match lookP k ks vs with | some v => .ok v | none => .stuck) = .ok u := by cases k <;> exact h
  obtain ⟨hk, h⟩ := need_ok.mp h
  split at h
  · cases h
    rename_i e
    rw [lookP_fnd hl] at e
    obtain ⟨j, h1, h2⟩ := Option.bind_eq_some_iff.mp e
    exact ⟨hk, j, h1, h2⟩
  · cases h
theorem fndP_spec {k : PV} : ∀ {ks : List PV} {j : Nat}, fndP k ks = some j → (∀ i q, i < j → ks[i]? = some q → eqP q k = false) ∧ ∃ q, ks[j]? = some q ∧ eqP q k = true
  | [], _, h => by simp [fndP] at h
  | q :: qs, j, h => by
    simp only [fndP] at h
    split at h
    · cases h
      rename_i e
      exact ⟨fun i _ hi => absurd hi (by omega), q, rfl, e⟩
    · rename_i e
      obtain ⟨i, hi, rfl⟩ := Option.map_eq_some_iff.mp h
      obtain ⟨a, b⟩ := fndP_spec hi
      refine ⟨fun m q' hm hq => ?_, by simpa using b⟩
      cases m with
      | zero => simp at hq; subst hq; simpa using e
      | succ m => exact a m q' (by omega) (by simpa using hq)
theorem putP_fnd {k v : PV} : ∀ {ks vs : List PV} {j : Nat}, ks.length = vs.length → fndP k ks = some j → putP k v ks vs = (ks, vs.set j v)
  | [], _, _, _, h => by simp [fndP] at h
  | q :: qs, [], _, hl, _ => by simp at hl
  | q :: qs, u :: us, j, hl, h => by
    simp only [fndP] at h
    simp only [putP]
    split at h
    · cases h
      rename_i e
      rw [if_pos e]; rfl
    · rename_i e
      obtain ⟨i, hi, rfl⟩ := Option.map_eq_some_iff.mp h
      rw [if_neg e, putP_fnd (by simpa using hl) hi]
      rfl
theorem ixP_lt {n : Nat} {i : Int} {j : Nat} (h : ixP n i = some j) : j < n := by
  unfold ixP at h
  split at h
  · split at h <;> cases h
    omega
  · split at h <;> cases h
    omega
theorem set_same {α : Type} {xs : List α} {j : Nat} {x : α} (h : xs[j]? = some x) : xs.set j x = xs := by
  induction xs generalizing j with
  | nil => rfl
  | cons y ys ih =>
    cases j with
    | zero => simp at h; subst h; rfl
    | succ j => simp only [List.set_cons_succ]; rw [ih (by simpa using h)]
theorem Dct.ofKeys {t : Bool} {u : HO} {ks : List PV} {ws : List V} (h : Dct t u ks ws) : ∀ {j : Nat} {w : V}, ws[j]? = some w → ws.set j w = ws := fun h => set_same h
theorem keyOf_pk {k : PV} (h : isKey1 k = true) : ∃ κ, keyOf k = some κ ∧ PK1 k κ := by
  cases k <;> simp only [isKey1, Bool.false_eq_true] at h
  · exact ⟨_, rfl, .int _⟩
  · exact ⟨_, rfl, .str _⟩
theorem keysOf_pk : ∀ {xs : List PV}, xs.all isKey1 = true → ∃ κs, xs.mapM keyOf = some κs ∧ PKs1 xs κs
  | [], _ => ⟨[], rfl, .nil⟩
  | x :: xs, h => by
    simp only [List.all_cons, Bool.and_eq_true] at h
    obtain ⟨κ, e, p⟩ := keyOf_pk h.1
    obtain ⟨κs, es, ps⟩ := keysOf_pk h.2
    exact ⟨κ :: κs, by simp [List.mapM_cons, e, es], .cons p ps⟩
theorem hoAt_dct {t : Bool} {o : HO} {kq : List PV} {ws : List V} {k : PV} {j : Nat} {w : V} (h : Dct t o kq ws) (hk : isKey t k = true) (hj : fndP k kq = some j) (hw : ws[j]? = some w) : hoAt o k = some w := by
  cases h with
  | k h1 h2 =>
    have hk1 : isKey1 k = true := by cases k <;> exact hk
    obtain ⟨κ, e, p⟩ := keyOf_pk hk1
    show (keyOf k).bind (fun q => valV _ q) = _
    rw [e]
    show valV _ κ = _
    rw [valV_fnd (fun _ _ q => pk1_eq q p) h1, hj]
    exact hw
  | t h1 h2 =>
    cases k <;> simp only [isKey, Bool.false_eq_true] at hk
    obtain ⟨κs, e, p⟩ := keysOf_pk hk
    show (List.mapM keyOf _).bind (fun q => valV _ q) = _
    rw [e]
    show valV _ κs = _
    rw [valV_fnd (fun _ _ q => pkt_eq q (.tup p)) h1, hj]
    exact hw
theorem foc : ∀ {ks : List PV} {n : Nat} {v u : PV} {w : V} {F : List Addr}, getPath v ks = .ok u → (∃ u' v', putPath v ks u' = .ok v') → ks.length ≤ n → (∀ a ∈ F, ¬ Z a) → Rep K H Z n v w F → ∃ wu, Foc K H Z n v w F ks u wu
  | [], n, v, u, w, F, hg, _, hn, hz, h => by
    simp only [getPath, Res.ok.injEq] at hg
    subst hg
    refine ⟨w, .nil, fun _ _ => .nil, F, by simpa using h, fun _ h => h, fun N Z' H' u' v' Fu' hzz hN hp c r => ?_⟩
    simp only [putPath, Res.ok.injEq] at hp
    subst hp
    exact ⟨Fu', by simpa using r, fun a ha => .inr ha, fun _ _ => .nil⟩
  | k :: ks, n, v, u, w, F, hg, ⟨u0, v0, hput⟩, hn, hz, h => by
    simp only [getPath] at hg
    obtain ⟨x, hx, hg2⟩ := Res.bind_ok.mp hg
    have hn' : ks.length + 1 ≤ n := by simpa using hn
    simp only [putPath] at hput
    obtain ⟨x0, hx0, hput⟩ := Res.bind_ok.mp hput
    rw [hx] at hx0
    cases hx0
    obtain ⟨x1, hx1, hput⟩ := Res.bind_ok.mp hput
    cases h with
    | tup0 h1 h2 => exact absurd hn' (by omega)
    | lst0 h1 h2 => exact absurd hn' (by omega)
    | dct0 h1 h2 h3 h4 => exact absurd hn' (by omega)
    | non => cases k <;> exact nomatch hx
    | bl b => cases k <;> exact nomatch hx
    | int b => cases k <;> exact nomatch hx
    | str z => cases k <;> exact nomatch hput
    | tupS h1 h2 => cases k <;> exact nomatch hput
    | @lstS d xs a ws L h1 h2 h3 =>
      obtain ⟨i, j, rfl, hj, hxj⟩ := itemP_lst hx
      obtain ⟨w0, Fx, e1, r1, s1, q⟩ := Reps.focus h2 hxj
      obtain ⟨wu, fl, flk, Fu, ru, su, cont⟩ := foc hg2 ⟨u0, x1, hx1⟩ (by omega : ks.length ≤ d) (fun b hb => hz b (List.mem_cons_of_mem _ (s1 b hb))) r1
      have hat : atP ws i = some w0 := by
        unfold atP
        rw [← h2.length, hj]; exact e1
      have ed : d + 1 - (PV.int i :: ks).length = d - ks.length := by simp
      refine ⟨wu, .step h1 hat fl, fun H' hk' => .step (hk' a List.mem_cons_self _ h1) hat (flk H' fun b hb => hk' b (List.mem_cons_of_mem _ (s1 b hb))), Fu, by rw [ed]; exact ru, fun b hb => List.mem_cons_of_mem _ (s1 b (su b hb)), fun N Z' H' u' v' Fu' hzz hN hp c r => ?_⟩
      rw [ed] at r
      simp only [putPath] at hp
      rw [hx] at hp
      obtain ⟨x', hx', hset⟩ := Res.bind_ok.mp (show ((putPath x ks u').bind fun u'' => setP (.lst xs) (.int i) u'') = .ok v' from hp)
      simp only [setP, hj, Res.ok.injEq] at hset
      subst hset
      obtain ⟨Fx', rx', sx', fl'⟩ := cont N Z' H' u' x' Fu' hzz (fun b hb => hN b (List.mem_cons_of_mem _ (s1 b hb))) hx' c r
      have c2 : Chg H H' Z N Fx Fx' := by
        refine ⟨fun b o e p => c.keep b o e (p.imp id fun n hb => n (su b hb)), fun b zb hb => hz b (List.mem_cons_of_mem _ (s1 b hb)) zb, fun b hb => ?_⟩
        rcases sx' b hb with z | z
        · exact .inl z.1
        · exact (c.new b z).imp (su b) id
      obtain ⟨F', rF, sF, sF3⟩ := q N Z' H' x' w0 Fx' hzz (fun b hb => hN b (List.mem_cons_of_mem _ hb)) c2 rx'
      rw [set_same e1] at rF
      have ha' : H' a = some (.lst ws) := c.keep a _ h1 (.inr fun hb => h3 (s1 a (su a hb)))
      refine ⟨a :: F', .lstS ha' rF fun hb => ?_, fun b hb => ?_, fun H2 hk2 => .step (hk2 a List.mem_cons_self _ ha') hat (fl' H2 fun b hb => hk2 b (List.mem_cons_of_mem _ (sF3 b hb)))⟩
      · rcases sF a hb with z | z
        · exact h3 z.1
        · rcases c2.new a z with z | z
          · exact h3 (s1 a z)
          · exact hN a List.mem_cons_self z
      · rcases List.mem_cons.mp hb with rfl | hb
        · exact .inl ⟨List.mem_cons_self, fun hb => h3 (s1 _ (su _ hb))⟩
        · rcases sF b hb with z | z
          · exact .inl ⟨List.mem_cons_of_mem _ z.1, fun hb => z.2 (su b hb)⟩
          · rcases sx' b z with z | z
            · exact .inl ⟨List.mem_cons_of_mem _ (s1 b z.1), z.2⟩
            · exact .inr z
    | @dctS d t kq vs a o ws L h1 h2 h3 h4 =>
      obtain ⟨hk, j, hj, hxj⟩ := itemP_dct (h2.lens.trans h3.length.symm) hx
      obtain ⟨w0, Fx, e1, r1, s1, q⟩ := Reps.focus h3 hxj
      obtain ⟨wu, fl, flk, Fu, ru, su, cont⟩ := foc hg2 ⟨u0, x1, hx1⟩ (by omega : ks.length ≤ d) (fun b hb => hz b (List.mem_cons_of_mem _ (s1 b hb))) r1
      have hat : hoAt o k = some w0 := hoAt_dct h2 hk hj e1
      have ed : d + 1 - (k :: ks).length = d - ks.length := by simp
      refine ⟨wu, .step h1 hat fl, fun H' hk' => .step (hk' a List.mem_cons_self _ h1) hat (flk H' fun b hb => hk' b (List.mem_cons_of_mem _ (s1 b hb))), Fu, by rw [ed]; exact ru, fun b hb => List.mem_cons_of_mem _ (s1 b (su b hb)), fun N Z' H' u' v' Fu' hzz hN hp c r => ?_⟩
      rw [ed] at r
      simp only [putPath] at hp
      rw [hx] at hp
      obtain ⟨x', hx', hset⟩ := Res.bind_ok.mp (show ((putPath x ks u').bind fun u'' => setP (.dct t kq vs) k u'') = .ok v' from hp)
      have hset : need (isKey t k = true ∧ kq.length < 16777216) (.ok (.dct t (putP k x' kq vs).1 (putP k x' kq vs).2)) = .ok v' := by cases k <;> exact hset
      obtain ⟨_, hset⟩ := need_ok.mp hset
      rw [putP_fnd (h2.lens.trans h3.length.symm) hj] at hset
      cases hset
      obtain ⟨Fx', rx', sx', fl'⟩ := cont N Z' H' u' x' Fu' hzz (fun b hb => hN b (List.mem_cons_of_mem _ (s1 b hb))) hx' c r
      have c2 : Chg H H' Z N Fx Fx' := by
        refine ⟨fun b o e p => c.keep b o e (p.imp id fun n hb => n (su b hb)), fun b zb hb => hz b (List.mem_cons_of_mem _ (s1 b hb)) zb, fun b hb => ?_⟩
        rcases sx' b hb with z | z
        · exact .inl z.1
        · exact (c.new b z).imp (su b) id
      obtain ⟨F', rF, sF, sF3⟩ := q N Z' H' x' w0 Fx' hzz (fun b hb => hN b (List.mem_cons_of_mem _ hb)) c2 rx'
      rw [set_same e1] at rF
      have ha' : H' a = some o := c.keep a _ h1 (.inr fun hb => h4 (s1 a (su a hb)))
      refine ⟨a :: F', .dctS ha' h2 rF fun hb => ?_, fun b hb => ?_, fun H2 hk2 => .step (hk2 a List.mem_cons_self _ ha') hat (fl' H2 fun b hb => hk2 b (List.mem_cons_of_mem _ (sF3 b hb)))⟩
      · rcases sF a hb with z | z
        · exact h4 z.1
        · rcases c2.new a z with z | z
          · exact h4 (s1 a z)
          · exact hN a List.mem_cons_self z
      · rcases List.mem_cons.mp hb with rfl | hb
        · exact .inl ⟨List.mem_cons_self, fun hb => h4 (s1 _ (su _ hb))⟩
        · rcases sF b hb with z | z
          · exact .inl ⟨List.mem_cons_of_mem _ z.1, fun hb => z.2 (su b hb)⟩
          · rcases sx' b z with z | z
            · exact .inl ⟨List.mem_cons_of_mem _ (s1 b z.1), z.2⟩
            · exact .inr z
/-- what stands there -/
theorem fol : ∀ {ks : List PV} {n : Nat} {v u : PV} {w : V} {F : List Addr}, getPath v ks = .ok u → (∀ z, u ≠ .str z) → ks.length ≤ n → Rep K H Z n v w F → ∃ wu, Follow H w ks wu ∧ (∀ H' : Hp, (∀ a o, H a = some o → imm o = true ∨ a ∈ F → H' a = some o) → Follow H' w ks wu) ∧ ∃ d F', Rep K H Z d u wu F'
  | [], n, v, u, w, F, hg, _, hn, h => by
    simp only [getPath, Res.ok.injEq] at hg
    subst hg
    exact ⟨w, .nil, fun _ _ => .nil, n, F, h⟩
  | k :: ks, n, v, u, w, F, hg, hs, hn, h => by
    simp only [getPath] at hg
    obtain ⟨x, hx, hg2⟩ := Res.bind_ok.mp hg
    have hn' : ks.length + 1 ≤ n := by simpa using hn
    have sq : ∀ {d : Nat} {xs : List PV} {a : Addr} {ws : List V} {L : List Addr} {o : HO}, H a = some o → (∀ i, hoAt o (.int i) = atP ws i) → Reps K H Z d xs ws L → ks.length ≤ d → (∀ b ∈ L, b ∈ F) → (imm o = true ∨ a ∈ F) → (∃ (i : Int) (j : Nat), k = .int i ∧ ixP xs.length i = some j ∧ xs[j]? = some x) →
        ∃ wu, Follow H (.ref a) (k :: ks) wu ∧ (∀ H' : Hp, (∀ a o, H a = some o → imm o = true ∨ a ∈ F → H' a = some o) → Follow H' (.ref a) (k :: ks) wu) ∧ ∃ d F', Rep K H Z d u wu F' := by
      intro d xs a ws L o h1 ho h2 hd hL ha ⟨i, j, e1, e2, e3⟩
      subst e1
      obtain ⟨w0, Fx, q1, r1, s1⟩ := h2.get e3
      obtain ⟨wu, f1, f2, f3⟩ := fol hg2 hs hd r1
      have hat : hoAt o (.int i) = some w0 := by
        rw [ho]
        unfold atP
        rw [← h2.length, e2]; exact q1
      exact ⟨wu, .step h1 hat f1, fun H' hk => .step (hk a o h1 ha) hat (f2 H' fun b ob hb hm => hk b ob hb (hm.imp id fun hm => hL b (s1 b hm))), f3⟩
    cases h with
    | tup0 h1 h2 => exact absurd hn' (by omega)
    | lst0 h1 h2 => exact absurd hn' (by omega)
    | dct0 h1 h2 h3 h4 => exact absurd hn' (by omega)
    | non => cases k <;> exact nomatch hx
    | bl b => cases k <;> exact nomatch hx
    | int b => cases k <;> exact nomatch hx
    | str z =>
      exfalso
      have key : ∀ (ks : List PV) (y : Str), getPath (.str y) ks = .ok u → ∃ z, u = .str z := by
        intro ks
        induction ks with
        | nil => intro y e; simp only [getPath, Res.ok.injEq] at e; exact ⟨y, e.symm⟩
        | cons q qs ih =>
          intro y e
          simp only [getPath] at e
          obtain ⟨x', hx', e2⟩ := Res.bind_ok.mp e
          cases q <;> simp only [itemP, reduceCtorEq] at hx'
          obtain ⟨_, hx'⟩ := need_ok.mp hx'
          split at hx' <;> cases hx'
          exact ih _ e2
      obtain ⟨y, e⟩ := key (k :: ks) z (by simp only [getPath]; exact hg)
      exact hs y e
    | tupS h1 h2 =>
      refine sq h1 (fun _ => rfl) h2 (by omega) (fun _ h => h) (.inl rfl) ?_
      cases k <;> simp only [itemP, reduceCtorEq] at hx
      split at hx <;> cases hx
      rename_i e
      unfold atP at e
      obtain ⟨j, e1, e2⟩ := Option.bind_eq_some_iff.mp e
      exact ⟨_, j, rfl, e1, e2⟩
    | lstS h1 h2 h3 => exact sq h1 (fun _ => rfl) h2 (by omega) (fun _ h => List.mem_cons_of_mem _ h) (.inr List.mem_cons_self) (itemP_lst hx)
    | @dctS d t kq vs a o ws L h1 h2 h3 h4 =>
      obtain ⟨hk, j, hj, hxj⟩ := itemP_dct (h2.lens.trans h3.length.symm) hx
      obtain ⟨w0, Fx, q1, r1, s1⟩ := h3.get hxj
      obtain ⟨wu, f1, f2, f3⟩ := fol hg2 hs (by omega : ks.length ≤ d) r1
      have hat : hoAt o k = some w0 := hoAt_dct h2 hk hj q1
      exact ⟨wu, .step h1 hat f1, fun H' hk => .step (hk a o h1 (.inr List.mem_cons_self)) hat (f2 H' fun b ob hb hm => hk b ob hb (hm.imp id fun hm => List.mem_cons_of_mem _ (s1 b hm))), f3⟩
end
end OI
set_option maxRecDepth 100000
set_option maxHeartbeats 4000000
/-! OI19: places. -/
namespace OI
open PySem PySem.Spec PyProof.Rows L2
section
variable {T : List FnA} {X : Cx} {K : PySem.W.Frag} {σ σ' : St} {S S' : ASt} {M : List Nat} {H H' : Hp} {Z : Addr → Prop}
theorem keyOf_rep {k : PV} {κ : Key} {d : Nat} {w : V} {F : List Addr} (e : keyOf k = some κ) (h : Rep K H Z d k w F) : w = kV κ := by
  cases h <;> simp only [keyOf, reduceCtorEq, Option.some.injEq] at e
  · subst e; rfl
  · subst e; rfl
theorem keysOf_reps {d : Nat} : ∀ {ks : List PV} {κ : List Key} {ws : List V} {F : List Addr}, ks.mapM keyOf = some κ → Reps K H Z d ks ws F → ws = κ.map kV
  | [], κ, _, _, e, h => by cases h; simp at e; subst e; rfl
  | k :: ks, κ, _, _, e, h => by
    simp only [List.mapM_cons, Option.bind_eq_bind, Option.bind_eq_some_iff, Option.pure_def, Option.some.injEq] at e
    obtain ⟨a, ea, as, eas, rfl⟩ := e
    cases h with
    | cons h1 h2 h3 => rw [keyOf_rep ea h1, keysOf_reps eas h2]; rfl
theorem ix_ho {b : Addr} {o : HO} {κ : PV} {u y : V} {d : Nat} {F : List Addr} (hu : X.A.units + 1 < cLine) (hb : H b = some o) (hk : hoAt o κ = some u) (h : Rep X.K H Z d κ y F) : ∃ r, IxR X r ∧ ∀ Q : VK, Q u H → r (.ref b) y H Q := by
  cases o <;> simp only [hoAt, reduceCtorEq] at hk
  · cases κ <;> simp only [reduceCtorEq] at hk
    cases h
    refine ⟨_, ix_seq, fun Q q => .inl ⟨b, _, _, u, rfl, rfl, .inl (.of hb), ?_, q⟩⟩
    unfold atP at hk
    unfold atI
    rw [← ixP_eq]
    exact hk
  · cases κ <;> simp only [reduceCtorEq] at hk
    cases h
    refine ⟨_, ix_seq, fun Q q => .inr (.inl ⟨b, _, _, u, rfl, rfl, .of hb, ?_, q⟩)⟩
    unfold atP at hk
    unfold atI
    rw [← ixP_eq]
    exact hk
  · obtain ⟨q, e1, e2⟩ := Option.bind_eq_some_iff.mp hk
    have := keyOf_rep e1 h
    subst this
    exact ⟨_, ix_dict hu, fun Q q' => ⟨b, u, rfl, .inl ⟨_, q, .of hb, rfl, e2.symm⟩, q'⟩⟩
  · obtain ⟨q, e1, e2⟩ := Option.bind_eq_some_iff.mp hk
    cases h <;> simp only [keysOf, reduceCtorEq] at e1
    all_goals
      rename_i h3 h4
      have := keysOf_reps e1 h4
      subst this
      exact ⟨_, ix_dict hu, fun Q q' => ⟨b, u, rfl, .inr ⟨_, q, _, .of hb, rfl, h3, e2.symm⟩, q'⟩⟩
theorem meEs_snoc {N : List Str} {sc : Scope} {q : Expr} : ∀ {ks : List E} {ls : List Expr}, meEs T N sc ks (ls ++ [q]) = true → ∃ ks0 k, ks = ks0 ++ [k] ∧ meEs T N sc ks0 ls = true ∧ meE T N sc k q = true
  | [], [], h => by simp [meEs] at h
  | [], _ :: _, h => by simp [meEs] at h
  | [k], [], h => by
    simp only [List.nil_append, meEs, Bool.and_eq_true] at h
    exact ⟨[], k, rfl, rfl, h.1.2⟩
  | k :: k2 :: ks, [], h => by simp [meEs] at h
  | k :: ks, l :: ls, h => by
    simp only [List.cons_append, meEs, Bool.and_eq_true] at h
    obtain ⟨ks0, k', rfl, h1, h2⟩ := meEs_snoc h.2
    exact ⟨k :: ks0, k', rfl, by simp only [meEs, Bool.and_eq_true]; exact ⟨h.1, h1⟩, h2⟩
theorem typAll_app {Γ : List Gt} : ∀ {as bs : List E}, typAll T (as ++ bs) Γ = true → typAll T as Γ = true ∧ typAll T bs Γ = true
  | [], bs, h => ⟨rfl, h⟩
  | a :: as, bs, h => by
    simp only [List.cons_append, typAll, Bool.and_eq_true] at h ⊢
    obtain ⟨h1, h2⟩ := typAll_app h.2
    exact ⟨⟨h.1, h1⟩, h2⟩
theorem tchEs_app : ∀ {as bs : List E}, tchEs (as ++ bs) = tchEs as ++ tchEs bs
  | [], _ => rfl
  | a :: as, bs => by simp only [List.cons_append, tchEs, tchEs_app (as := as), List.append_assoc]
theorem evalKs_app {G : Ctx} {env : Env} : ∀ {as bs : List E} {kv : List PV}, evalKs G (as ++ bs) env = .ok kv → ∃ k1 k2, kv = k1 ++ k2 ∧ evalKs G as env = .ok k1 ∧ evalKs G bs env = .ok k2
  | [], _, kv, h => ⟨[], kv, rfl, rfl, h⟩
  | a :: as, bs, kv, h => by
    simp only [List.cons_append, evalKs, Res.bind_ok] at h
    obtain ⟨v, hv, r, hr, e⟩ := h
    cases e
    obtain ⟨k1, k2, rfl, h1, h2⟩ := evalKs_app hr
    exact ⟨v.1 :: k1, k2, rfl, by simp only [evalKs, hv, h1]; rfl, h2⟩
theorem noExc_ok {α : Type} {r : Res α} {a : α} : noExc r = .ok a ↔ r = .ok a := by
  cases r <;> simp [noExc]
theorem typAll_one {Γ : List Gt} {k : E} (h : typAll T [k] Γ = true) : ∃ r, typE T k Γ = some (r, Γ) := by
  simp only [typAll, Bool.and_true] at h
  cases t : typE T k Γ with
  | none => simp [t] at h
  | some p =>
    obtain ⟨r, Γ'⟩ := p
    simp only [t, decide_eq_true_eq] at h
    subst h
    exact ⟨r, rfl⟩
/-- an expression that reads a place -/
theorem path_we {G : Ctx} {ER : ERel} {W : WX} {k : Nat} (g : Good X T G ER W k) (o : Ok X.K σ S) {root : Expr} {w0 : V} (hroot : ∀ Q : VK, (∀ S', Stepd X.K σ [] S S.env S.G S' → Q w0 S'.H) → WE X root σ S.H Q) :
    ∀ {n : Nat} {e : Expr} {ls : List Expr} {ks : List E} {kv : List PV} {wu : V}, unpath n e = some (root, ls) → meEs T X.N X.env.scope ks ls = true → ls.all notSlice = true → typAll T ks S.G = true → tchEs ks = [] → (∀ e ∈ ks, SndE T e) →
      evalKs G ks S.env = .ok kv → Follow S.H w0 kv wu → ∀ Q : VK, (∀ S', Stepd X.K σ [] S S.env S.G S' → Q wu S'.H) → WE X e σ S.H Q
  | 0, e, ls, ks, kv, wu, hu, hm, _, _, _, _, hk, hf, Q, hQ => by
    simp only [unpath, Option.some.injEq, Prod.mk.injEq] at hu
    obtain ⟨rfl, rfl⟩ := hu
    cases ks with
    | cons _ _ => simp [meEs] at hm
    | nil =>
      simp only [evalKs, Res.ok.injEq] at hk
      subst hk
      cases hf
      exact hroot Q hQ
  | n + 1, e, ls, ks, kv, wu, hu, hm, hn, ht, h0, hs, hk, hf, Q, hQ => by
    cases e <;> simp only [unpath, reduceCtorEq] at hu
    rename_i a i pos
    obtain ⟨⟨r0, ls0⟩, hu2, e2⟩ := Option.map_eq_some_iff.mp hu
    cases e2
    obtain ⟨ks0, κe, rfl, hm0, hmk⟩ := meEs_snoc hm
    obtain ⟨ht0, htk⟩ := typAll_app ht
    rw [tchEs_app, List.append_eq_nil_iff] at h0
    obtain ⟨kv0, kv1, rfl, hk0, hk1⟩ := evalKs_app hk
    simp only [evalKs, Res.bind_ok, noExc_ok] at hk1
    obtain ⟨⟨κ, env1⟩, hκ, r, hr, e3⟩ := hk1
    cases hr
    cases e3
    obtain ⟨b, ob, f0, hb, hat⟩ := Follow.snoc hf
    simp only [List.all_append, List.all_cons, List.all_nil, Bool.and_true, Bool.and_eq_true] at hn
    obtain ⟨rk, htk⟩ := typAll_one htk
    have h1 : tchE κe = [] := by simpa [tchEs] using h0.2
    refine .of (pe_ix ixAny pe_we pe_we (notSlice_plain hn.2)) ?_
    refine path_we g o hroot hu2 hm0 hn.1 ht0 h0.1 (fun e he => hs e (by simp [he])) hk0 f0 _ fun S1 g1 => ?_
    have s1 := snd_iff.mp (hs κe (by simp)) X G ER W k g i hmk σ S1 rk S.G (by rw [g1.g]; exact htk) g1.ok
    refine s1.ok κ env1 (by rw [g1.env]; exact hκ) _ fun S2 y F g2 => ?_
    have hb1 : S1.H b = some ob := g1.stp.keep b ob hb (.inr fun ⟨_, m, _⟩ => nomatch m)
    have hb2 : S2.H b = some ob := g2.stp.keep b ob hb1 (.inr fun ⟨_, m, _⟩ => by rw [h1] at m; cases m)
    obtain ⟨d, F', rp⟩ := RepT.any g2.tmp.rep
    obtain ⟨ru, hop, hq⟩ := ix_ho (by have := g.un; omega) hb2 hat rp
    refine ⟨ru, hop, hq Q (hQ S2 ⟨?_, by rw [g2.g], g1.stp.trans (g2.stp.mono fun j hj => by rw [h1] at hj; cases hj), g2.ok⟩)⟩
    -- the names stand
    apply List.ext_getElem?
    intro j
    rw [g2.stp.env j (by rw [h1]; simp), g1.env]
theorem gat_eq {Γ : List Gt} {i : Nat} {g : Gt} (h : gat Γ i = g) (hd : g ≠ .dead) : Γ[i]? = some g := by
  unfold gat at h
  cases q : Γ[i]? with
  | none => rw [q] at h; exact absurd h.symm hd
  | some z => rw [q] at h; simp at h; rw [h]
/-- a place: its slot, what stands there -/
theorem depthAt_ok {Γ : List Gt} {p : Pr} {n : Nat} (h : depthAt Γ p = some n) : Γ[p.x]? = some (.t (.d (n + p.k0.length))) ∧ (p.y = none ∧ p.k0 = [] ∨ ∃ y, p.y = some y ∧ Γ[y]? = some (.al p.x p.k0)) := by
  unfold depthAt at h
  split at h
  · rename_i m hc hg
    by_cases hl : p.k0.length ≤ m
    · rw [if_pos hl] at h
      cases h
      refine ⟨by rw [gat_some hg, Nat.sub_add_cancel hl], ?_⟩
      unfold prOk at hc
      split at hc
      · rename_i hy
        exact .inl ⟨hy, by simpa using hc⟩
      · rename_i y hy
        exact .inr ⟨y, hy, gat_eq (by simpa using hc) (by simp)⟩
    · rw [if_neg hl] at h
      cases h
  · cases h
/-- the slot changed with its heap -/
theorem Ok.wr (o : Ok K σ S) {x n : Nat} {wx : V} {env' : Env} {F' : List Addr} {H' : Hp} {Z' : Addr → Prop} {G' : List Gt} (hx : S.G[x]? = some (.t (.d n))) (hσ : σ[x]? = some (some wx)) (hl : env'.length = S.env.length) (he : ∀ j, j ≠ x → env'[j]? = S.env[j]?)
    (rep : ∀ v, env'[x]? = some (some v) → Rep K H' Z' n v wx F') (hno : (∀ v, env'[x]? ≠ some (some v)) → F' = []) (kp : Kp (fun a => a ∈ S.Fs x) S.H H') (hz : ∀ a, S.Z a → Z' a) (hZ : ∀ a, Z' a → S.Z a ∨ (H' a ≠ none ∧ ∀ j, a ∉ S.Fs j)) (hF : ∀ a ∈ F', (a ∈ S.Fs x ∨ ∀ j, a ∉ S.Fs j) ∧ ¬ Z' a)
    (htrk : ∀ a ∈ F', ∃ ob, H' a = some ob ∧ imm ob = false) (hlive : ∀ a, S.H a ≠ none → H' a ≠ none) (hG : ∀ (j : Nat) (τ : Tp), G'[j]? = some (.t τ) ↔ S.G[j]? = some (.t τ))
    (hA : ∀ (y x' : Nat) (ks : List Kc), G'[y]? = some (.al x' ks) → S.G[y]? = some (.al x' ks) ∧ (x' ≠ x ∨ ∃ wy, σ[y]? = some (some wy) ∧ ∀ H2 : Hp, (∀ a ∈ F', ∀ o, H' a = some o → H2 a = some o) → Follow H2 wx (ks.map Kc.v) wy)) :
    Ok K σ { env := env', G := G', Fs := fun j => if j = x then F' else S.Fs j, Z := Z', H := H' } := by
  have nd : ∀ j, j ≠ x → ∀ a ∈ S.Fs j, a ∉ S.Fs x := fun j hj a ha hb => o.apart j x hj a ha hb
  refine ⟨hl.trans o.len, fun j τ v h1 h2 => ?_, fun j h => ?_, fun y x' ks h => ?_, fun i j hij a ha hb => ?_, fun j a ha z => ?_, fun j a ha => ?_, fun a z => ?_⟩
  · have g1 := (hG j τ).mp h1
    by_cases e : j = x
    · subst e
      rw [hx] at g1
      cases g1
      refine ⟨wx, hσ, ?_⟩
      show RepT K H' Z' (.d n) v wx (if j = j then F' else S.Fs j)
      rw [if_pos rfl]
      exact rep v h2
    · have g2 : env'[j]? = some (some v) := h2
      rw [he j e] at g2
      obtain ⟨w, e1, r⟩ := o.slot j τ v g1 g2
      refine ⟨w, e1, ?_⟩
      show RepT K H' Z' τ v w (if j = x then F' else S.Fs j)
      rw [if_neg e]
      exact r.keep kp (fun a ha => nd j e a ha) (fun a z hb => o.nz x a hb z) hz
  · show (if j = x then F' else S.Fs j) = []
    by_cases e : j = x
    · subst e
      rw [if_pos rfl]
      rcases h with h | h
      · exact absurd ((hG j _).mpr hx) (h _)
      · exact hno h
    · rw [if_neg e]
      refine o.no j (h.imp (fun h τ e2 => h τ ((hG j τ).mpr e2)) fun h v e2 => h v ?_)
      show env'[j]? = _
      rw [he j e]; exact e2
  · obtain ⟨h1, h2⟩ := hA y x' ks h
    obtain ⟨wx', wy, e1, e2, f⟩ := o.al y x' ks h1
    by_cases e : x' = x
    · subst e
      rcases h2 with h2 | ⟨wy', e3, f'⟩
      · exact absurd rfl h2
      · refine ⟨wx, wy', hσ, e3, fun H2 hk => f' H2 fun a ha => hk a ?_⟩
        show a ∈ (if x' = x' then F' else S.Fs x')
        rw [if_pos rfl]; exact ha
    · refine ⟨wx', wy, e1, e2, fun H2 hk => f H2 fun a ha ob eo => hk a ?_ ob (kp a ob eo (.inr (nd x' e a ha)))⟩
      show a ∈ (if x' = x then F' else S.Fs x')
      rw [if_neg e]; exact ha
  · have ha : a ∈ (if i = x then F' else S.Fs i) := ha
    have hb : a ∈ (if j = x then F' else S.Fs j) := hb
    by_cases e : i = x
    · rw [if_pos e] at ha
      have e' : j ≠ x := fun z => hij (e.trans z.symm)
      rw [if_neg e'] at hb
      rcases (hF a ha).1 with z | z
      · exact nd j e' a hb z
      · exact z j hb
    · rw [if_neg e] at ha
      by_cases e' : j = x
      · rw [if_pos e'] at hb
        rcases (hF a hb).1 with z | z
        · exact nd i e a ha z
        · exact z i ha
      · rw [if_neg e'] at hb
        exact o.apart i j hij a ha hb
  · have ha : a ∈ (if j = x then F' else S.Fs j) := ha
    by_cases e : j = x
    · rw [if_pos e] at ha
      exact (hF a ha).2 z
    · rw [if_neg e] at ha
      rcases hZ a z with z | z
      · exact o.nz j a ha z
      · exact z.2 j ha
  · have ha : a ∈ (if j = x then F' else S.Fs j) := ha
    by_cases e : j = x
    · rw [if_pos e] at ha
      exact htrk a ha
    · rw [if_neg e] at ha
      obtain ⟨ob, eo, im⟩ := o.trk j a ha
      exact ⟨ob, kp a ob eo (.inr (nd j e a ha)), im⟩
  · rcases hZ a z with z | z
    · exact hlive a (o.ztr a z)
    · exact z.1
end
end OI
set_option maxRecDepth 100000
set_option maxHeartbeats 4000000
/-! OI20: methods. -/
namespace OI
open PySem PySem.Spec PyProof.Rows L2
section
variable {T : List FnA} {X : Cx} {K : PySem.W.Frag} {σ σ' : St} {S S' : ASt} {M : List Nat} {H H' : Hp} {Z : Addr → Prop}
def TyAt (X : Cx) (H : Hp) (x : V) (t : String) : Prop := ∀ (pins : List (Addr × Obj)) (σ : St) (s : Shared) (v : Value), Inv X pins σ H s → RelV x v → s.TypeIs v t ∧ ∀ a, v = .ref a → ∃ ob, s.heap.get? a = some ob ∧ ob.dict = none
/-- x's method name, with what stands in hand behind t -/
def MAny (X : Cx) (name : Str) (x : V) (H : Hp) (P : (V → List V → Hp → VK → Prop) → Prop) : Prop := ∃ t id r, PlainAttrs t ∧ Slot t name id ∧ typeOf (.builtin id) = pure (.type "method_descriptor") ∧ MtR X id r ∧ TyAt X H x t ∧ P r
def tMA (X : Cx) (name : Str) (to : TE) (t : TA) : TE := fun σ H Q => to σ H fun x H1 => MAny X name x H1 fun r => t σ H1 fun xs H2 => r x xs H2 Q
theorem backTo_plain {env : PySem.Env} {pos : Pos} : ∀ {es : List Expr}, es.all plainX = true → (backTo pos (starEach es env)).all (fun x => !x.1) = true ∧ (backTo pos (starEach es env)).any (·.1) = false
  | [], _ => ⟨rfl, rfl⟩
  | e :: es, h => by
    simp only [List.all_cons, Bool.and_eq_true] at h
    obtain ⟨a, b⟩ := backTo_plain h.2 (env := env) (pos := pos)
    rw [star_plain h.1]
    exact ⟨a, b⟩
theorem base_plain {o : Expr} {name : Str} {env : PySem.Env} (h : plainBase o = true) : attributeBase o name env (eval o env) = eval o env := by
  unfold attributeBase
  split
  · simp [plainBase] at h
  · rfl
theorem pe_mAny {o : Expr} {name : Str} {apos cpos : Pos} {es : List Expr} {to : TE} (ho : PE X o to) (hb : plainBase o = true) (hl : (apos.endLine == cpos.line) = true) (hp : es.all plainX = true) (hn : es.length < 20) : PE X (.Call (.Attribute o name apos) es [] cpos) (tMA X name to (WL X es)) := by
  refine ⟨fun pins s σ H Q I h => ?_⟩
  obtain ⟨b1, b2⟩ := backTo_plain hp (env := X.env) (pos := cpos)
  refine wpAny_Call_method_late (base_plain hb) ?_ hl rfl (thn (ho.run pins s σ H _ I h) fun v s1 ⟨x, H1, I1, r1, T', id, r, pa, slot, hty, hm, ty, q1⟩ => ?_)
  · rw [b1, Bool.true_and]
    show (true && decide (es.length + 0 + 0 < 30)) = true
    rw [Bool.true_and]
    exact decide_eq_true (by omega)
  obtain ⟨h1, h2⟩ := ty pins σ s1 v I1 r1
  refine ⟨T', id, pa, slot, hty, h1, h2, ?_⟩
  refine Calls.callWith_builtin (by show (false || (backTo cpos (starEach es X.env)).any (·.1)) = false; rw [b2]; rfl) ?_
  cases es with
  | nil =>
    exact PySem.evalArgs_none (hm pins s1 σ H1 x [] v [] Q I1 r1 .nil q1)
  | cons e es =>
    have hA := (pa_wl hp).run cpos pins s1 σ H1 _ I1 q1
    simp only [List.all_cons, Bool.and_eq_true] at hp
    rw [star_plain hp.1] at hA ⊢
    refine Calls.evalArgs_plain ?_
    exact thn hA fun us s2 ⟨vs, H2, I2, r2, q2⟩ => hm pins s2 σ H2 x vs v us Q I2 r1 r2 q2
theorem tyAt_list {a : Addr} {ws : List V} (h : Rd H a (.lst ws)) : TyAt X H (.ref a) "list" := fun pins σ s v I r => tyV_is I r (.inl ⟨rfl, ws, .inl h⟩)
theorem tyAt_str {z : Str} : TyAt X H (.str z) "str" := fun pins σ s v I r => tyV_is I r rfl
theorem tyAt_dct {a : Addr} {u : HO} {t : Bool} {ks : List PV} {ws : List V} (h : H a = some u) (hd : Dct t u ks ws) : TyAt X H (.ref a) "dict" := fun pins σ s v I r => by
  cases hd with
  | k _ _ => exact tyV_is I r (.inr (.inr (.inl ⟨rfl, .inl ⟨_, h⟩⟩)))
  | t _ _ => exact tyV_is I r (.inr (.inr (.inl ⟨rfl, .inr ⟨_, h⟩⟩)))
/-! ### changes of a list -/
theorem Reps.out {d : Nat} : ∀ {xs : List PV} {ws : List V} {F : List Addr} {j : Nat} {v : PV}, Reps K H Z d xs ws F → xs[j]? = some v →
    ∃ w Fv F', ws[j]? = some w ∧ Rep K H Z d v w Fv ∧ Reps K H Z d (xs.eraseIdx j) (ws.eraseIdx j) F' ∧ (∀ a ∈ Fv, a ∈ F ∧ a ∉ F') ∧ ∀ a ∈ F', a ∈ F
  | [], _, _, j, v, _, e => by simp at e
  | y :: xs, _, _, 0, v, h, e => by
    simp only [List.getElem?_cons_zero, Option.some.injEq] at e
    subst e
    cases h with
    | @cons _ _ _ w ws F G h1 h2 h3 => exact ⟨w, F, G, rfl, h1, h2, fun a ha => ⟨List.mem_append_left _ ha, h3 a ha⟩, fun a ha => List.mem_append_right _ ha⟩
  | y :: xs, _, _, j + 1, v, h, e => by
    simp only [List.getElem?_cons_succ] at e
    cases h with
    | @cons _ _ _ w ws F G h1 h2 h3 =>
      obtain ⟨w', Fv, F', e1, r1, r2, s1, s2⟩ := Reps.out h2 e
      refine ⟨w', Fv, F ++ F', by simpa using e1, r1, ?_, fun a ha => ⟨List.mem_append_right _ (s1 a ha).1, fun hb => ?_⟩, fun a ha => ?_⟩
      · simp only [List.eraseIdx_cons_succ]
        exact Reps.cons h1 r2 fun a ha hb => h3 a ha (s2 a hb)
      · rcases List.mem_append.mp hb with hb | hb
        · exact h3 a hb (s1 a ha).1
        · exact (s1 a ha).2 hb
      · rcases List.mem_append.mp ha with ha | ha
        · exact List.mem_append_left _ ha
        · exact List.mem_append_right _ (s2 a ha)
theorem dropLast_erase {α : Type} : ∀ xs : List α, xs.dropLast = xs.eraseIdx (xs.length - 1)
  | [] => rfl
  | [x] => rfl
  | x :: y :: xs => by
    simp only [List.dropLast, List.length_cons, Nat.add_sub_cancel]
    have := dropLast_erase (y :: xs)
    simp only [List.length_cons, Nat.add_sub_cancel] at this
    rw [this]
    rfl
theorem last_get {α : Type} : ∀ {xs : List α} {v : α}, xs.getLast? = some v → xs[xs.length - 1]? = some v := by
  intro xs v h
  rw [List.getLast?_eq_getElem?] at h
  exact h
/-- what a change at wu does: c' stands there, v is the answer -/
def MutOk (X : Cx) (H : Hp) (Z : Addr → Prop) (e : Nat) (τ : Tp) (c' v : PV) (wu : V) (Fu hand : List Addr) (xs : List V) (r : V → List V → Hp → VK → Prop) : Prop :=
  ∀ Q : VK, (∀ (w : V) (H' : Hp) (Z' : Addr → Prop) (Fu' Fv : List Addr), Kp (fun a => a ∈ Fu) H H' → (∀ a, H a ≠ none → H' a ≠ none) → (∀ a, Z a → Z' a) → (∀ a, Z' a → Z a ∨ a ∈ hand) → Rep X.K H' Z' (e + 1) c' wu Fu' → RepT X.K H' Z' τ v w Fv →
      (∀ a ∈ Fu', a ∈ Fu ∨ a ∈ hand) → (∀ a ∈ Fu', ¬ Z' a) → (∀ a ∈ Fv, a ∈ Fu ∧ a ∉ Fu' ∧ ¬ Z' a) → Q w H') → r wu xs H Q
theorem upd_live {l : Addr} {o : HO} : ∀ a, H a ≠ none → upd H l o a ≠ none := fun a h => by
  by_cases e : a = l
  · subst e; rw [upd_same]; simp
  · rw [upd_ne e]; exact h
theorem upd_kp {l : Addr} {o : HO} {L : List Addr} {o' : HO} (hl : H l = some o') (him : imm o' = false) (hm : l ∈ L) : Kp (fun a => a ∈ L) H (upd H l o) := fun a u e p => by
  by_cases ea : a = l
  · subst ea
    rw [hl] at e
    cases e
    rcases p with p | p
    · rw [him] at p; cases p
    · exact absurd hm p
  · rw [upd_ne ea]; exact e
theorem Reps.rev {d : Nat} : ∀ {xs : List PV} {ws : List V} {F : List Addr}, Reps K H Z d xs ws F → ∃ F', Reps K H Z d xs.reverse ws.reverse F' ∧ ∀ a, a ∈ F' ↔ a ∈ F
  | [], _, _, h => by cases h; exact ⟨[], .nil, fun _ => Iff.rfl⟩
  | x :: xs, _, _, h => by
    cases h with
    | @cons _ _ _ w ws F G h1 h2 h3 =>
      obtain ⟨G', r, m⟩ := Reps.rev h2
      have one : Reps K H Z d [x] [w] F := by
        have := Reps.cons h1 (Reps.nil (K := K) (H := H) (Z := Z)) fun _ _ z => nomatch z
        rw [List.append_nil] at this
        exact this
      refine ⟨G' ++ F, ?_, fun a => ?_⟩
      · simp only [List.reverse_cons]
        exact Reps.append r one fun a ha hb => h3 a hb ((m a).mp ha)
      · simp [m a, or_comm]
theorem kp_one {l : Addr} {o o' : HO} (hl : H l = some o') (him : imm o' = false) : Kp (fun a => a = l) H (upd H l o) := fun a u e p => by
  by_cases ea : a = l
  · subst ea
    rw [hl] at e
    cases e
    rcases p with p | p
    · rw [him] at p; cases p
    · exact absurd rfl p
  · rw [upd_ne ea]; exact e
def handOf : Mut → List (List Addr) → List TR → List Addr
  | .append, [F], [r] => match r.2 with
    | none => F
    | some _ => []
  | _, _, _ => []
def mutId : Mut → String
  | .append => "list.append"
  | .extend => "list.extend"
  | .pop => "list.pop"
  | .reverse => "list.reverse"
  | _ => ""
def mutR : Mut → Nat → (V → List V → Hp → VK → Prop)
  | .append, _ => rAppend
  | .extend, _ => rExtend
  | .pop, 0 => rPop
  | .pop, _ => rPopAt
  | .reverse, _ => rReverse
  | _, _ => fun _ _ _ _ => False
theorem mut_rule {m : Mut} {e : Nat} {rs : List TR} (takes : m.takes e rs = true) : Slot "list" (Str.ofString m.nm) (mutId m) ∧ typeOf (.builtin (mutId m)) = pure (.type "method_descriptor") ∧ MtR X (mutId m) (mutR m rs.length) := by
  unfold Mut.takes at takes
  split at takes
  · exact ⟨PySem.F.slot_list_append, PySem.F.type_list_append, mt_append⟩
  · exact ⟨PySem.F.slot_list_extend, PySem.F.type_list_extend, mt_extend⟩
  · exact ⟨PySem.F.slot_list_pop, PySem.F.type_list_pop, mt_pop⟩
  · exact ⟨PySem.F.slot_list_pop, PySem.F.type_list_pop, mt_popAt⟩
  · exact ⟨PySem.F.slot_list_reverse, PySem.F.type_list_reverse, mt_reverse⟩
  · cases takes
theorem mut_val {m : Mut} {e : Nat} {c c' v : PV} {wu : V} {Fu : List Addr} {rs : List TR} {args : List PV} {xs : List V} {Fl : List (List Addr)} (S : ASt) (hmu : mutP m c args = .ok (c', v)) (rep : Rep X.K S.H S.Z (e + 1) c wu Fu) (nz : ∀ a ∈ Fu, ¬ S.Z a)
    (tms : Tmps X.K S rs args xs Fl) (takes : m.takes e rs = true) (dj : ∀ a ∈ handOf m Fl rs, a ∉ Fu) :
    MutOk X S.H S.Z e (m.gives e) c' v wu Fu (handOf m Fl rs) xs (mutR m rs.length) := by
  unfold Mut.takes at takes
  split at takes
  · -- append
    rename_i r
    cases tms with
    | @cons _ _ v0 _ w0 _ F0 _ tm tms' _ =>
    cases tms'
    cases c <;> simp only [mutP, reduceCtorEq] at hmu
    rename_i ys
    obtain ⟨hz, hmu⟩ := need_ok.mp hmu
    cases hmu
    cases rep with
    | @lstS _ _ l ws L h1 h2 h3 =>
      refine fun Q hQ => show rAppend _ _ _ _ from ⟨l, ws, w0, rfl, rfl, h1, by rw [sizeLine_eq, ← h2.length]; exact hz, ?_⟩
      have kp : Kp (fun a => a ∈ l :: L) S.H (upd S.H l (.lst (ws ++ [w0]))) := upd_kp h1 rfl List.mem_cons_self
      have k1 : Kp (fun a => a = l) S.H (upd S.H l (.lst (ws ++ [w0]))) := kp_one h1 rfl
      have zl : ∀ a, S.Z a → ¬ a = l := fun a z ea => nz l List.mem_cons_self (ea ▸ z)
      -- what is in hand
      have hF0 : r.2 ≠ none → F0 = [] := fun hn => by
        rcases useAt_src takes with h | h
        · have t := tm.rep
          rw [h] at t
          exact t.1
        · exact absurd h hn
      have hand : ∀ a ∈ F0, a ∈ handOf .append [F0] [r] := fun a ha => by
        unfold handOf
        cases e2 : r.2 with
        | none => simp [e2]; exact ha
        | some y => rw [hF0 (by simp [e2])] at ha; cases ha
      have d0 : ∀ a ∈ F0, a ∉ l :: L := fun a ha => dj a (hand a ha)
      by_cases he : e = 0
      · subst he
        have el : Rep X.K (upd S.H l (.lst (ws ++ [w0]))) (fun a => S.Z a ∨ a ∈ F0) 0 v0 w0 [] := by
          have tr := tm.rep.keep k1 (fun a ha ea => d0 a ha (ea ▸ List.mem_cons_self)) zl (fun _ z => z)
          cases e1 : r.1 with
          | cl => rw [e1] at tr; exact tr.cl0.2 _ _
          | d n => rw [e1] at tr; exact Rep.freeze (fun _ z => .inl z) (fun a ha => .inr ha) tr
        have old := Reps.keep (Z' := fun a => S.Z a ∨ a ∈ F0) k1 (fun a ha ea => h3 (ea ▸ ha)) zl (fun _ z => .inl z) h2
        have L0 := Reps.zeroF h2
        subst L0
        refine hQ .non _ (fun a => S.Z a ∨ a ∈ F0) [l] [] kp upd_live (fun _ z => .inl z) (fun a z => z.imp id (hand a)) ?_ ⟨rfl, ⟨1, rfl⟩, .non⟩ (fun a ha => .inl ha) (fun a ha z => ?_) fun _ h => nomatch h
        · exact .lstS upd_same (Reps.app0 old (Reps.cons (F := []) (G := []) el .nil fun _ z => nomatch z)) (by simp)
        · rcases z with z | z
          · exact nz a ha z
          · exact d0 a z ha
      · have el : Rep X.K (upd S.H l (.lst (ws ++ [w0]))) S.Z e v0 w0 F0 := (tm.use takes he).keep k1 (fun a ha ea => d0 a ha (ea ▸ List.mem_cons_self)) zl (fun _ z => z)
        have old := Reps.keep k1 (fun a ha ea => h3 (ea ▸ ha)) zl (fun _ z => z) h2
        refine hQ .non _ S.Z (l :: (L ++ F0)) [] kp upd_live (fun _ z => z) (fun a z => .inl z) ?_ ⟨rfl, ⟨1, rfl⟩, .non⟩ (fun a ha => ?_) (fun a ha z => ?_) fun _ h => nomatch h
        · have one : Reps X.K (upd S.H l (.lst (ws ++ [w0]))) S.Z e [v0] [w0] F0 := by
            have := Reps.cons el (Reps.nil (K := X.K) (H := upd S.H l (.lst (ws ++ [w0]))) (Z := S.Z)) fun _ _ z => nomatch z
            rw [List.append_nil] at this
            exact this
          refine .lstS upd_same (Reps.append old one fun a ha hb => d0 a hb (List.mem_cons_of_mem _ ha)) fun hb => ?_
          rcases List.mem_append.mp hb with hb | hb
          · exact h3 hb
          · exact d0 l hb List.mem_cons_self
        · rcases List.mem_cons.mp ha with rfl | ha
          · exact .inl List.mem_cons_self
          · rcases List.mem_append.mp ha with ha | ha
            · exact .inl (List.mem_cons_of_mem _ ha)
            · exact .inr (hand a ha)
        · rcases List.mem_cons.mp ha with rfl | ha
          · exact nz _ List.mem_cons_self z
          · rcases List.mem_append.mp ha with ha | ha
            · exact nz a (List.mem_cons_of_mem _ ha) z
            · exact tm.nz a ha z
  · -- extend
    rename_i r
    simp only [Bool.and_eq_true, beq_iff_eq] at takes
    obtain ⟨rfl, hr⟩ := takes
    cases tms with
    | @cons _ _ v0 _ w0 _ F0 _ tm tms' _ =>
    cases tms'
    cases c <;> cases v0 <;> simp only [mutP, reduceCtorEq] at hmu
    rename_i ys zs
    obtain ⟨hz, hmu⟩ := need_ok.mp hmu
    cases hmu
    have tr : RepT X.K S.H S.Z (.d 1) (.lst zs) w0 F0 := by rw [← hr]; exact tm.rep
    have tr : Rep X.K S.H S.Z 1 (.lst zs) w0 F0 := tr
    cases tr with
    | @lstS _ _ b us L2 g1 g2 g3 =>
    cases rep with
    | @lstS _ _ l ws L h1 h2 h3 =>
      refine fun Q hQ => show rExtend _ _ _ _ from ⟨l, b, ws, us, rfl, rfl, h1, g1, by rw [sizeLine_eq, ← h2.length, ← g2.length]; exact hz, ?_⟩
      have kp : Kp (fun a => a ∈ l :: L) S.H (upd S.H l (.lst (ws ++ us))) := upd_kp h1 rfl List.mem_cons_self
      have k1 : Kp (fun a => a = l) S.H (upd S.H l (.lst (ws ++ us))) := kp_one h1 rfl
      have zl : ∀ a, S.Z a → ¬ a = l := fun a z ea => nz l List.mem_cons_self (ea ▸ z)
      have L0 := Reps.zeroF h2
      have L20 := Reps.zeroF g2
      subst L0 L20
      refine hQ .non _ S.Z [l] [] kp upd_live (fun _ z => z) (fun a z => .inl z) ?_ ⟨rfl, ⟨1, rfl⟩, .non⟩ (fun a ha => .inl ha) (fun a ha z => nz a ha z) fun _ h => nomatch h
      exact .lstS upd_same (Reps.app0 (Reps.keep k1 (fun _ h => nomatch h) zl (fun _ z => z) h2) (Reps.keep k1 (fun _ h => nomatch h) zl (fun _ z => z) g2)) (by simp)
  · -- pop()
    cases tms
    cases c <;> simp only [mutP, reduceCtorEq] at hmu
    rename_i ys
    split at hmu <;> cases hmu
    rename_i hlast
    cases rep with
    | @lstS _ _ l ws L h1 h2 h3 =>
      have hj := last_get hlast
      obtain ⟨w, Fv, F', e1, r1, r2, s1, s2⟩ := Reps.out h2 hj
      refine fun Q hQ => show rPop _ _ _ _ from ⟨l, ws, w, rfl, rfl, h1, by rw [← h2.length]; exact e1, ?_⟩
      have kp : Kp (fun a => a ∈ l :: L) S.H (upd S.H l (.lst ws.dropLast)) := upd_kp h1 rfl List.mem_cons_self
      have k1 : Kp (fun a => a = l) S.H (upd S.H l (.lst ws.dropLast)) := kp_one h1 rfl
      have zl : ∀ a, S.Z a → ¬ a = l := fun a z ea => nz l List.mem_cons_self (ea ▸ z)
      have ne : ∀ a ∈ L, ¬ a = l := fun a ha ea => h3 (ea ▸ ha)
      have e2 : ys.eraseIdx (ys.length - 1) = ys.dropLast := (dropLast_erase ys).symm
      have e3 : ws.eraseIdx (ys.length - 1) = ws.dropLast := by rw [h2.length]; exact (dropLast_erase ws).symm
      rw [e2, e3] at r2
      refine hQ w _ S.Z (l :: F') Fv kp upd_live (fun _ z => z) (fun a z => .inl z) ?_ (Rep.keep k1 (fun a ha => ne a (s1 a ha).1) zl (fun _ z => z) r1) (fun a ha => ?_) (fun a ha z => ?_) fun a ha => ⟨List.mem_cons_of_mem _ (s1 a ha).1, fun hb => ?_, nz a (List.mem_cons_of_mem _ (s1 a ha).1)⟩
      · exact .lstS upd_same (Reps.keep k1 (fun a ha => ne a (s2 a ha)) zl (fun _ z => z) r2) fun hb => h3 (s2 l hb)
      · rcases List.mem_cons.mp ha with rfl | ha
        · exact .inl List.mem_cons_self
        · exact .inl (List.mem_cons_of_mem _ (s2 a ha))
      · rcases List.mem_cons.mp ha with rfl | ha
        · exact nz _ List.mem_cons_self z
        · exact nz a (List.mem_cons_of_mem _ (s2 a ha)) z
      · rcases List.mem_cons.mp hb with rfl | hb
        · exact h3 (s1 _ ha).1
        · exact (s1 a ha).2 hb
  · -- pop(i)
    rename_i r
    cases tms with
    | @cons _ _ v0 _ w0 _ F0 _ tm tms' _ =>
    cases tms'
    cases c <;> cases v0 <;> simp only [mutP, reduceCtorEq] at hmu
    rename_i ys i
    split at hmu
    · rename_i j hj
      split at hmu
      · rename_i y hyj
        obtain ⟨hsm, hmu⟩ := need_ok.mp hmu
        cases hmu
        obtain ⟨di, Fi, ri⟩ := RepT.any tm.rep
        cases ri
        cases rep with
        | @lstS _ _ l ws L h1 h2 h3 =>
          obtain ⟨w, Fv, F', e1, r1, r2, s1, s2⟩ := Reps.out h2 hyj
          rw [ixP_eq, h2.length] at hj
          obtain ⟨q1, q2, q3, q4⟩ := ixN_seq hj
          refine fun Q hQ => show rPopAt _ _ _ _ from ⟨l, ws, i, j, w, rfl, rfl, h1, by unfold smallP at hsm; omega, by unfold smallP at hsm; omega, q1, e1, ?_⟩
          have kp : Kp (fun a => a ∈ l :: L) S.H (upd S.H l (.lst (ws.eraseIdx j))) := upd_kp h1 rfl List.mem_cons_self
          have k1 : Kp (fun a => a = l) S.H (upd S.H l (.lst (ws.eraseIdx j))) := kp_one h1 rfl
          have zl : ∀ a, S.Z a → ¬ a = l := fun a z ea => nz l List.mem_cons_self (ea ▸ z)
          have ne : ∀ a ∈ L, ¬ a = l := fun a ha ea => h3 (ea ▸ ha)
          refine hQ w _ S.Z (l :: F') Fv kp upd_live (fun _ z => z) (fun a z => .inl z) ?_ (Rep.keep k1 (fun a ha => ne a (s1 a ha).1) zl (fun _ z => z) r1) (fun a ha => ?_) (fun a ha z => ?_) fun a ha => ⟨List.mem_cons_of_mem _ (s1 a ha).1, fun hb => ?_, nz a (List.mem_cons_of_mem _ (s1 a ha).1)⟩
          · exact .lstS upd_same (Reps.keep k1 (fun a ha => ne a (s2 a ha)) zl (fun _ z => z) r2) fun hb => h3 (s2 l hb)
          · rcases List.mem_cons.mp ha with rfl | ha
            · exact .inl List.mem_cons_self
            · exact .inl (List.mem_cons_of_mem _ (s2 a ha))
          · rcases List.mem_cons.mp ha with rfl | ha
            · exact nz _ List.mem_cons_self z
            · exact nz a (List.mem_cons_of_mem _ (s2 a ha)) z
          · rcases List.mem_cons.mp hb with rfl | hb
            · exact h3 (s1 _ ha).1
            · exact (s1 a ha).2 hb
      · cases hmu
    · cases hmu
  · -- reverse
    cases tms
    cases c <;> simp only [mutP, reduceCtorEq] at hmu
    rename_i ys
    cases hmu
    cases rep with
    | @lstS _ _ l ws L h1 h2 h3 =>
      refine fun Q hQ => show rReverse _ _ _ _ from ⟨l, ws, rfl, rfl, h1, ?_⟩
      have kp : Kp (fun a => a ∈ l :: L) S.H (upd S.H l (.lst ws.reverse)) := upd_kp h1 rfl List.mem_cons_self
      have k1 : Kp (fun a => a = l) S.H (upd S.H l (.lst ws.reverse)) := kp_one h1 rfl
      have zl : ∀ a, S.Z a → ¬ a = l := fun a z ea => nz l List.mem_cons_self (ea ▸ z)
      obtain ⟨L', r2, m2⟩ := Reps.rev (Reps.keep k1 (fun a ha ea => h3 (ea ▸ ha)) zl (fun _ z => z) h2)
      refine hQ .non _ S.Z (l :: L') [] kp upd_live (fun _ z => z) (fun a z => .inl z) ?_ ⟨rfl, ⟨1, rfl⟩, .non⟩ (fun a ha => ?_) (fun a ha z => ?_) fun _ h => nomatch h
      · exact .lstS upd_same r2 fun hb => h3 ((m2 l).mp hb)
      · rcases List.mem_cons.mp ha with rfl | ha
        · exact .inl List.mem_cons_self
        · exact .inl (List.mem_cons_of_mem _ ((m2 a).mp ha))
      · rcases List.mem_cons.mp ha with rfl | ha
        · exact nz _ List.mem_cons_self z
        · exact nz a (List.mem_cons_of_mem _ ((m2 a).mp ha)) z
  · cases takes
end
end OI
set_option maxRecDepth 100000
set_option maxHeartbeats 4000000
/-! OI21: changes at a place. -/
namespace OI
open PySem PySem.Spec PyProof.Rows L2
section
variable {T : List FnA} {X : Cx} {K : PySem.W.Frag} {σ σ' : St} {S S' : ASt} {M : List Nat} {H H' : Hp} {Z : Addr → Prop}
theorem aliveA_at {p : Pr} {n j : Nat} {Γ : List Gt} : (aliveA p n Γ)[j]? = (Γ[j]?).map fun g => match g with
    | .al y ks => if y = p.x ∧ ¬ (n = 0 ∧ ks = p.k0) then .dead else .al y ks
    | g => g := by
  unfold aliveA
  rw [List.getElem?_map]
  all_goals congr 1
theorem aliveA_t {p : Pr} {n j : Nat} {Γ : List Gt} {τ : Tp} : (aliveA p n Γ)[j]? = some (.t τ) ↔ Γ[j]? = some (.t τ) := by
  rw [aliveA_at]
  cases h : Γ[j]? with
  | none => simp
  | some g =>
    cases g with
    | al y ks => simp; split <;> simp
    | _ => simp
theorem aliveA_al {p : Pr} {n j : Nat} {Γ : List Gt} {y : Nat} {ks : List Kc} (e : (aliveA p n Γ)[j]? = some (.al y ks)) : Γ[j]? = some (.al y ks) ∧ (y ≠ p.x ∨ (n = 0 ∧ ks = p.k0)) := by
  rw [aliveA_at] at e
  cases h : Γ[j]? with
  | none => simp [h] at e
  | some g =>
    rw [h] at e
    cases g with
    | al y' ks' =>
      simp only [Option.map_some, Option.some.injEq] at e
      split at e
      · cases e
      · rename_i hc
        cases e
        refine ⟨rfl, ?_⟩
        by_cases hy : y = p.x
        · exact .inr (Classical.not_not.mp fun h => hc ⟨hy, h⟩)
        · exact .inl hy
    | _ => simp at e
theorem setV_at {env : Env} {i j : Nat} {v : Option PV} : (setV env i v)[j]? = if j = i then (env[i]?).map (fun _ => v) else env[j]? := by
  induction env generalizing i j with
  | nil => simp [setV]
  | cons a r ih =>
    cases i with
    | zero => cases j <;> simp [setV]
    | succ i =>
      cases j with
      | zero => simp [setV]
      | succ j => simp [setV, ih]
theorem setV_len {env : Env} {i : Nat} {v : Option PV} : (setV env i v).length = env.length := by
  induction env generalizing i with
  | nil => rfl
  | cons a r ih => cases i <;> simp [setV, ih]
theorem evalKs_exc {G : Ctx} {env : Env} {x : PV} : ∀ {ks : List E}, evalKs G ks env ≠ .exc x
  | [], h => by simp [evalKs] at h
  | k :: ks, h => by
    simp only [evalKs, Res.bind_exc] at h
    rcases h with h | ⟨_, _, h | ⟨_, _, h⟩⟩
    · cases e : evalE G k env <;> simp [e, noExc] at h
    · exact evalKs_exc h
    · cases h
theorem getPath_exc {x : PV} : ∀ {ks : List PV} {v : PV}, getPath v ks ≠ .exc x
  | [], v, h => by simp [getPath] at h
  | k :: ks, v, h => by
    simp only [getPath, Res.bind_exc] at h
    rcases h with h | ⟨_, _, h⟩
    · exact itemP_exc h
    · exact getPath_exc h
theorem readPath_exc {env : Env} {i : Nat} {ks : List PV} {x : PV} : readPath env i ks ≠ .exc x := by
  intro h
  simp only [readPath, Res.bind_exc] at h
  rcases h with h | ⟨_, _, h⟩
  · exact getV_exc h
  · exact getPath_exc h
theorem setP_exc {c k v x : PV} : setP c k v ≠ .exc x := by
  intro h
  unfold setP at h
  split at h <;> first
    | (obtain ⟨_, h⟩ := need_exc.mp h; cases h; done)
    | (split at h <;> cases h; done)
    | (cases h; done)
theorem putPath_exc {x u : PV} : ∀ {ks : List PV} {v : PV}, putPath v ks u ≠ .exc x
  | [], v, h => by simp [putPath] at h
  | k :: ks, v, h => by
    simp only [putPath, Res.bind_exc] at h
    rcases h with h | ⟨_, _, h | ⟨_, _, h⟩⟩
    · exact itemP_exc h
    · exact putPath_exc h
    · exact setP_exc h
theorem writePath_exc {env : Env} {i : Nat} {ks : List PV} {u x : PV} : writePath env i ks u ≠ .exc x := by
  intro h
  simp only [writePath, Res.bind_exc] at h
  rcases h with h | ⟨_, _, h | ⟨_, _, h⟩⟩
  · exact getV_exc h
  · exact putPath_exc h
  · cases h
theorem mutP_exc {m : Mut} {c x : PV} {vs : List PV} : mutP m c vs ≠ .exc x := by
  intro h
  unfold mutP at h
  split at h <;> first
    | (obtain ⟨_, h⟩ := need_exc.mp h; cases h; done)
    | (split at h <;> first | (cases h; done) | (split at h <;> first | (obtain ⟨_, h⟩ := need_exc.mp h; cases h; done) | (cases h; done)))
    | (cases h; done)
theorem me_mut {N : List Str} {sc : Scope} {m : Mut} {p : Pr} {ks args : List E} {e : Expr} (he : meE T N sc (.mut m p ks args) e = true) : ∃ o apos qs cpos x pos ls, e = .Call (.Attribute o (Str.ofString m.nm) apos) qs [] cpos ∧ (apos.endLine == cpos.line) = true ∧ plainBase o = true ∧ qs.length < 20 ∧
    unpath ks.length o = some (.Name x pos, ls) ∧ nmB N sc (p.y.getD p.x) x = true ∧ ls.all notSlice = true ∧ meEs T N sc ks ls = true ∧ meEs T N sc args qs = true := by
  simp only [meE] at he
  split at he
  · rename_i o a apos qs cpos
    simp only [Bool.and_eq_true, decide_eq_true_eq] at he
    obtain ⟨⟨⟨⟨⟨h1, h2⟩, h3⟩, h4⟩, h5⟩, h6⟩ := he
    subst h1
    split at h5
    · rename_i x pos ls hu
      simp only [Bool.and_eq_true] at h5
      exact ⟨_, _, _, _, x, pos, ls, rfl, h2, h3, h4, hu, h5.1.1, h5.1.2, h5.2, h6⟩
    · cases h5
  · cases he
theorem Mut.lists {m : Mut} {c c' v : PV} {vs : List PV} (h : mutP m c vs = .ok (c', v)) : ∀ z, c ≠ .str z := by
  intro z hz
  subst hz
  unfold mutP at h
  split at h <;> simp_all
theorem snd_mut {m : Mut} {p : Pr} {ks args : List E} (hks : ∀ e ∈ ks, SndE T e) (hs : ∀ e ∈ args, SndE T e) : SndE T (.mut m p ks args) := by
  have ih := snds_iff.mp (snds_of hs)
  refine snd_iff.mpr fun X G ER W k g e he σ S r Γ' ht o => ?_
  obtain ⟨oe, apos, qs, cpos, x, npos, ls, rfl, hline, hbase, hlen, hun, hnm, hns, hmk, hma⟩ := me_mut he
  simp only [typE] at ht
  split at ht
  · rename_i htk
    cases t1 : typEs T args S.G with
    | none => simp [t1] at ht
    | some p1 =>
      obtain ⟨rs, Γ1⟩ := p1
      simp only [t1] at ht
      cases hd : depthAt Γ1 p with
      | none => simp [hd] at ht
      | some n =>
        simp only [hd] at ht
        split at ht
        · rename_i hc
          cases ht
          simp only [Bool.and_eq_true, decide_eq_true_eq, List.isEmpty_iff] at hc
          obtain ⟨⟨⟨⟨hd0, htc⟩, hkn⟩, hcond⟩, htakes⟩ := hc
          obtain ⟨gx0, gy0⟩ := depthAt_ok hd0
          obtain ⟨gx1, gy1⟩ := depthAt_ok hd
          have tE : tchE (.mut m p ks args) = p.x :: tchEs args := by simp [tchE, htc]
          -- the first part: up to the arguments
          have front : ∀ kv c0, evalKs G ks S.env = .ok kv → readPath S.env p.x (p.ks ++ kv) = .ok c0 → isLst c0 = true → ∃ v1 wx wu, S.env[p.x]? = some (some v1) ∧ σ[p.x]? = some (some wx) ∧ getPath v1 (p.ks ++ kv) = .ok c0 ∧
              (∀ H' : Hp, (∀ a ob, S.H a = some ob → imm ob = true ∨ a ∈ S.Fs p.x → H' a = some ob) → Follow H' wx (p.ks ++ kv) wu) ∧ (∃ a ws, wu = .ref a ∧ Rd S.H a (.lst ws)) ∧ kv.length = ks.length ∧
              ∀ Q : VK, (∀ S', Stepd X.K σ [] S S.env S.G S' → Q wu S'.H) → WE X oe σ S.H Q := by
            intro kv c0 hkv hrd hstr
            have hns0 := hns
            simp only [readPath, Res.bind_ok] at hrd
            obtain ⟨v1, hv1, hgp⟩ := hrd
            have hv1 := getV_ok.mp hv1
            obtain ⟨wx, hwx, rx⟩ := o.slot p.x _ v1 gx0 hv1
            have lk : kv.length = ks.length := by
              have : ∀ (ks : List E) (kv : List PV), evalKs G ks S.env = .ok kv → kv.length = ks.length := by
                intro ks
                induction ks with
                | nil => intro kv h; simp only [evalKs, Res.ok.injEq] at h; subst h; rfl
                | cons q qs ih =>
                  intro kv h
                  simp only [evalKs, Res.bind_ok] at h
                  obtain ⟨_, _, r, hr, e⟩ := h
                  cases e
                  simp [ih r hr]
              exact this ks kv hkv
            have hlen2 : (p.ks ++ kv).length ≤ n + p.k0.length := by simp [Pr.ks, lk]; omega
            have hns : ∀ z, c0 ≠ .str z := fun z e => by subst e; cases hstr
            obtain ⟨wu, f1, f2, d3, F3, f3⟩ := fol hgp hns hlen2 rx
            have hl : ∃ a ws, wu = .ref a ∧ Rd S.H a (.lst ws) := by
              cases f3 <;> first | (cases hstr; done) | skip
              · rename_i h _; exact ⟨_, _, rfl, h.1⟩
              · rename_i h _ _; exact ⟨_, _, rfl, .of h⟩
            refine ⟨v1, wx, wu, hv1, hwx, hgp, f2, hl, lk, fun Q hQ => ?_⟩
            -- the root
            rcases gy0 with ⟨ey, ek⟩ | ⟨y, ey, hy⟩
            · have e0 : p.ks = [] := by simp [Pr.ks, ek]
              rw [e0, List.nil_append] at f1
              rw [ey] at hnm
              exact path_we g o (w0 := wx) (fun Q hQ => we_var hnm hwx (hQ S ⟨rfl, rfl, .refl, o⟩)) hun hmk hns0 htk htc hks hkv f1 Q hQ
            · obtain ⟨wx', wy, e1, e2, fa⟩ := o.al y p.x p.k0 hy
              rw [hwx] at e1
              cases e1
              obtain ⟨wm, fa1, fa2⟩ := Follow.split f1
              have := (fa S.H fun _ _ _ e => e).det fa1
              subst this
              rw [ey] at hnm
              exact path_we g o (w0 := wy) (fun Q hQ => we_var hnm e2 (hQ S ⟨rfl, rfl, .refl, o⟩)) hun hmk hns0 htk htc hks hkv fa2 Q hQ
          obtain ⟨slt, hty, hmt⟩ := mut_rule (X := X) htakes
          have start : ∀ kv c0, evalKs G ks S.env = .ok kv → readPath S.env p.x (p.ks ++ kv) = .ok c0 → isLst c0 = true → ∃ v1 wx wu, S.env[p.x]? = some (some v1) ∧ σ[p.x]? = some (some wx) ∧
              (∀ H' : Hp, (∀ a ob, S.H a = some ob → imm ob = true ∨ a ∈ S.Fs p.x → H' a = some ob) → Follow H' wx (p.ks ++ kv) wu) ∧ kv.length = ks.length ∧
              ∀ Q : VK, (∀ S1, Stepd X.K σ [] S S.env S.G S1 → WL X qs σ S1.H fun xs H2 => mutR m rs.length wu xs H2 Q) → WE X (.Call (.Attribute oe (Str.ofString m.nm) apos) qs [] cpos) σ S.H Q := by
            intro kv c0 h1 h2 h3
            obtain ⟨v1, wx, wu, q1, q2, _, q4, ⟨a, ws, rfl, hl⟩, lk, q5⟩ := front kv c0 h1 h2 h3
            refine ⟨v1, wx, _, q1, q2, q4, lk, fun Q hQ => .of (pe_mAny pe_we hbase hline (meEs_plain hma) hlen) (q5 _ fun S1 g1 => ?_)⟩
            have hl1 : Rd S1.H a (.lst ws) := by
              rcases hl with h | ⟨ob, h⟩
              · exact .inl (g1.stp.keep a _ h (.inr fun ⟨_, m, _⟩ => nomatch m))
              · exact .inr ⟨ob, g1.stp.keep a _ h (.inl rfl)⟩
            exact ⟨"list", mutId m, mutR m rs.length, PySem.F.plainAttrs_list, slt, hty, hmt, tyAt_list hl1, hQ S1 g1⟩
          refine ⟨fun v env' ev Q hQ => ?_, fun y ev Q hQ => ?_⟩
          · simp only [evalE, Res.bind_ok, need_ok] at ev
            obtain ⟨kv, hkv, c0, hrd, hlst, ⟨vs, env2⟩, ev1, c, hrd2, ⟨c', v'⟩, hmu, env3, hwr, e5⟩ := ev
            cases e5
            obtain ⟨v1, wx, wu, hv1, hwx, hfol, lk, go⟩ := start kv c0 hkv hrd hlst
            refine go Q fun S1 g1 => ?_
            have s1 := ih X G ER W k g qs hma σ S1 rs Γ1 (by rw [g1.g]; exact t1) g1.ok
            refine s1.ok vs env2 (by rw [g1.env]; exact ev1) _ fun S2 xs Fl g2 => ?_
            -- the slot behind the arguments
            simp only [readPath, Res.bind_ok] at hrd2
            obtain ⟨v2, hv2, hgp2⟩ := hrd2
            have hv2 : S2.env[p.x]? = some (some v2) := by rw [g2.env]; exact getV_ok.mp hv2
            have hg2 : S2.G[p.x]? = some (.t (.d (n + p.k0.length))) := by rw [g2.g]; exact gx1
            obtain ⟨wx2, hwx2, rx2⟩ := g2.ok.slot p.x _ v2 hg2 hv2
            rw [hwx] at hwx2
            cases hwx2
            have rx2 : Rep X.K S2.H S2.Z (n + p.k0.length) v2 wx (S2.Fs p.x) := rx2
            simp only [writePath, Res.bind_ok] at hwr
            obtain ⟨v2', hv2', v3, hput, e6⟩ := hwr
            have : v2' = v2 := by
              have := getV_ok.mp hv2'
              rw [← g2.env, hv2] at this
              cases this; rfl
            subst this
            cases e6
            have hl2 : (p.ks ++ kv).length ≤ n + p.k0.length := by simp [Pr.ks, lk]; omega
            obtain ⟨wu2, ff, _, Fu, ru, su, cont⟩ := foc hgp2 ⟨_, _, hput⟩ hl2 (g2.ok.nz p.x) rx2
            have hwu : wu2 = wu := by
              refine ff.det ?_
              by_cases hx : p.x ∈ tchEs args
              · have hc : ks = [] ∧ p.k0 = [] := by simpa [hx] using hcond
                have ek : kv = [] := by
                  have := lk
                  rw [hc.1] at this
                  exact List.eq_nil_of_length_eq_zero (by simpa using this)
                have e0 : p.ks ++ kv = [] := by simp [Pr.ks, hc.2, ek]
                have q := hfol S.H fun _ _ e _ => e
                rw [e0] at q ⊢
                cases q
                exact .nil
              · refine hfol S2.H fun a ob e hm => ?_
                have e1 := g1.stp.keep a ob e (.inr fun ⟨_, m, _⟩ => nomatch m)
                refine g2.stp.keep a ob e1 (hm.imp id fun hm ⟨i, hi, hi2⟩ => ?_)
                rw [← g1.stp.fs p.x (by simp)] at hm
                exact g1.ok.apart p.x i (fun e => hx (e ▸ hi)) a hm hi2
            subst hwu
            have hsub : n + p.k0.length - (p.ks ++ kv).length = (n - ks.length - 1) + 1 := by simp [Pr.ks, lk]; omega
            rw [hsub] at ru
            -- what is in hand
            have hhand : ∀ a ∈ handOf m Fl rs, (∀ i, a ∉ S2.Fs i) ∧ ¬ S2.Z a ∧ S2.H a ≠ none ∧ (S1.H a = none ∨ Wr (tchEs args) S1 a) := by
              intro a ha
              unfold handOf at ha
              split at ha
              · rename_i F0 r0
                split at ha
                · rename_i hr0
                  obtain ⟨r', v', w', e1, _, _, tm⟩ := g2.tmps.all 0 F0 rfl
                  simp only [List.getElem?_cons_zero, Option.some.injEq] at e1
                  subst e1
                  obtain ⟨ob, eo, _⟩ := tm.rep.trk a ha
                  exact ⟨fun i => tm.own hr0 i a ha, tm.nz a ha, by rw [eo]; simp, g2.new 0 _ F0 rfl rfl hr0 a ha⟩
                · cases ha
              · cases ha
            have mv := mut_val S2 hmu ru (fun a ha => g2.ok.nz p.x a (su a ha)) g2.tmps htakes fun a ha hb => (hhand a ha).1 p.x (su a hb)
            refine mv Q fun w H' Z' Fu' Fv kp live hz hZ rep' rv hFu' hnz' hFv => ?_
            have nzp := g2.ok.nz p.x
            obtain ⟨F', rF, sF, fl'⟩ := cont (fun a => a ∈ handOf m Fl rs) Z' H' c' v3 Fu' hz (fun a ha hb => (hhand a hb).1 p.x ha) hput ⟨kp, fun a z hb => nzp a (su a hb) z, hFu'⟩ (by rw [hsub]; exact rep')
            have kpx : Kp (fun a => a ∈ S2.Fs p.x) S2.H H' := fun a ob e q => kp a ob e (q.imp id fun n hb => n (su a hb))
            have sF2 : ∀ a ∈ F', (a ∈ S2.Fs p.x ∨ ∀ j, a ∉ S2.Fs j) ∧ ¬ Z' a := fun a ha => by
              rcases sF a ha with z | z
              · refine ⟨.inl z.1, fun q => ?_⟩
                rcases hZ a q with q | q
                · exact nzp a z.1 q
                · exact (hhand a q).1 p.x z.1
              · refine ⟨?_, hnz' a z⟩
                rcases hFu' a z with q | q
                · exact .inl (su a q)
                · exact .inr (hhand a q).1
            have ok3 := g2.ok.wr (x := p.x) (wx := wx) (env' := setV S2.env p.x (some v3)) (F' := F') (H' := H') (Z' := Z') (G' := aliveA p ks.length S2.G) hg2 hwx setV_len (fun j hj => by rw [setV_at, if_neg hj])
              (fun v hv => by rw [setV_at, if_pos rfl, hv2] at hv; simp at hv; subst hv; exact rF) (fun hn => absurd (by rw [setV_at, if_pos rfl, hv2]; rfl) (hn v3)) kpx hz
              (fun a z => (hZ a z).imp id fun q => ⟨live a (hhand a q).2.2.1, (hhand a q).1⟩) sF2 (fun a ha => Rep.trk rF a ha) live (fun j τ => aliveA_t) fun y x' ks' hal => by
                obtain ⟨a1, a2⟩ := aliveA_al hal
                by_cases ex : x' = p.x
                · refine ⟨a1, .inr ?_⟩
                  rcases a2 with a2 | ⟨hk0, hks⟩
                  · exact absurd ex a2
                  · obtain ⟨wx', wy, b1, b2, fa⟩ := g2.ok.al y _ _ a1
                    rw [ex, hwx] at b1
                    cases b1
                    have ek : kv = [] := List.eq_nil_of_length_eq_zero (by rw [lk, hk0])
                    have epk : p.ks = ks'.map Kc.v := by rw [hks]; rfl
                    rw [ek, List.append_nil, epk] at ff fl'
                    have e2 : wy = wu2 := (fa S2.H fun _ _ _ e => e).det ff
                    subst e2
                    exact ⟨wy, b2, fl'⟩
                · exact ⟨a1, .inl ex⟩
            have st02 : Stp (p.x :: tchEs args) S S2 := (g1.stp.mono fun _ h => nomatch h).trans (g2.stp.mono fun i hi => List.mem_cons_of_mem _ hi)
            have hxM : p.x ∈ p.x :: tchEs args := List.mem_cons_self
            have handS : ∀ a ∈ handOf m Fl rs, S.H a = none ∨ Wr (p.x :: tchEs args) S a := fun a ha => by
              rcases (hhand a ha).2.2.2 with z | ⟨i, hi, z⟩
              · refine .inl ?_
                cases q : S.H a with
                | none => rfl
                | some u => exact absurd z (g1.stp.live a (by simp [q]))
              · rcases g1.stp.fnew i a z with z | z | ⟨_, hm, _⟩
                · exact .inr ⟨i, List.mem_cons_of_mem _ hi, z⟩
                · exact .inl z
                · cases hm
            have inX : ∀ a ∈ S2.Fs p.x, a ∈ S.Fs p.x ∨ S.H a = none ∨ Wr (p.x :: tchEs args) S a := fun a ha => st02.fnew p.x a ha
            refine hQ _ w Fv ⟨by show setV S2.env p.x _ = _; rw [g2.env], by show aliveA p ks.length S2.G = _; rw [g2.g], ?_, ok3, ⟨rv, fun _ i a ha => ?_, fun _ e => (nomatch e), fun a ha => (hFv a ha).2.2⟩, fun _ a ha => ?_⟩
            · rw [tE]
              refine ⟨fun i hi => ?_, fun i hi => ?_, ?_, fun a z => hz a (st02.z a z), fun a z => ?_, fun i a ha => ?_, fun a z => live a (st02.live a z)⟩
              · have hi : i ≠ p.x := fun e => hi (e ▸ hxM)
                show (setV S2.env p.x _)[i]? = _
                rw [setV_at, if_neg hi]
                exact st02.env i (by assumption)
              · have hi' : i ≠ p.x := fun e => hi (e ▸ hxM)
                show (if i = p.x then F' else S2.Fs i) = _
                rw [if_neg hi']
                exact st02.fs i hi
              · exact Kp.trans st02 fun a ob e q => kpx a ob e (q.imp id fun n hb => n ⟨p.x, hxM, hb⟩)
              · rcases hZ a z with z | z
                · exact st02.znew a z
                · exact .inr (handS a z)
              · have ha : a ∈ (if i = p.x then F' else S2.Fs i) := ha
                by_cases ei : i = p.x
                · rw [if_pos ei] at ha
                  rw [ei]
                  rcases sF a ha with z | z
                  · exact inX a z.1
                  · rcases hFu' a z with q | q
                    · exact inX a (su a q)
                    · exact .inr (handS a q)
                · rw [if_neg ei] at ha
                  exact st02.fnew i a ha
            · show a ∉ (if i = p.x then F' else S2.Fs i)
              by_cases ei : i = p.x
              · rw [if_pos ei]
                intro hb
                rcases sF a hb with z | z
                · exact z.2 (hFv a ha).1
                · exact (hFv a ha).2.1 z
              · rw [if_neg ei]
                exact fun hb => g2.ok.apart i p.x ei a hb (su a (hFv a ha).1)
            · rw [tE]
              rcases inX a (su a (hFv a ha).1) with z | z | z
              · exact .inr ⟨p.x, hxM, z⟩
              · exact .inl z
              · exact .inr z
          · simp only [evalE, Res.bind_exc, need_exc] at ev
            rcases ev with ev | ⟨kv, hkv, ev⟩
            · exact absurd ev evalKs_exc
            · rcases ev with ev | ⟨c0, hrd, hlst, ev⟩
              · exact absurd ev readPath_exc
              · obtain ⟨v1, wx, wu, hv1, hwx, hfol, lk, go⟩ := start kv c0 hkv hrd hlst
                refine go Q fun S1 g1 => ?_
                have s1 := ih X G ER W k g qs hma σ S1 rs Γ1 (by rw [g1.g]; exact t1) g1.ok
                rcases ev with ev | ⟨⟨vs, env2⟩, ev1, ev⟩
                · exact s1.exc y (by rw [g1.env]; exact ev) _ (hQ.step (g1.stp.mono fun _ h => nomatch h) fun i hi => by rw [tE]; exact List.mem_cons_of_mem _ hi)
                · exfalso
                  rcases ev with ev | ⟨c, _, ev⟩
                  · exact readPath_exc ev
                  · rcases ev with ev | ⟨q, _, ev⟩
                    · exact mutP_exc ev
                    · rcases ev with ev | ⟨_, _, ev⟩
                      · exact writePath_exc ev
                      · cases ev
        · cases ht
  · cases ht
end
end OI
set_option maxRecDepth 100000
set_option maxHeartbeats 4000000
/-! OI22: calls. -/
namespace OI
open PySem PySem.Spec PyProof.Rows L2
section
variable {T : List FnA} {X : Cx} {K : PySem.W.Frag} {σ σ' : St} {S S' : ASt} {M : List Nat} {H H' : Hp} {Z : Addr → Prop}
theorem wl_app {Q : List V → Hp → Prop} : ∀ {as bs : List Expr} {H : Hp}, WL X (as ++ bs) σ H Q → WL X as σ H fun vs H1 => WL X bs σ H1 fun zs H2 => Q (vs ++ zs) H2 := by
  intro as
  induction as generalizing Q with
  | nil => intro bs H h; exact h
  | cons a as ih => intro bs H h; exact WE.imp h fun x H1 h => ih h
theorem wl_imp : ∀ {es : List Expr} {H : Hp} {Q Q' : List V → Hp → Prop}, WL X es σ H Q → (∀ ws H, Q ws H → Q' ws H) → WL X es σ H Q'
  | [], _, _, _, h, k => k _ _ h
  | _ :: _, _, _, _, h, k => WE.imp h fun _ _ h => wl_imp h fun _ _ q => k _ _ q
theorem wl_len : ∀ {es : List Expr} {H : Hp} {Q : List V → Hp → Prop}, WL X es σ H Q → WL X es σ H fun ws H' => ws.length = es.length ∧ Q ws H'
  | [], _, _, h => ⟨rfl, h⟩
  | _ :: _, _, _, h => WE.imp h fun _ _ h => wl_imp (wl_len h) fun _ _ ⟨a, b⟩ => ⟨by simp [a], b⟩
theorem pk_wl : ∀ {kws : List Keyword}, PK X kws (WL X (kws.map fun k => k.value))
  | [] => pk_nil
  | ⟨nm, e, kp⟩ :: kws => pk_cons pe_we pk_wl
theorem kw_len : ∀ {kws : List Keyword}, kwPlain kws = true → (kws.filterMap (·.arg)).length = kws.length
  | [], _ => rfl
  | ⟨nm, e, kp⟩ :: kws, h => by
    simp only [kwPlain, Bool.and_eq_true] at h
    cases nm with
    | none => exact absurd h.1 (by simp)
    | some x => simp [kw_len h.2]
theorem kw_some {env : PySem.Env} {pos : Pos} : ∀ {kws : List Keyword}, kwPlain kws = true → (backToKw pos (keywordEach kws env)).all (·.1.isSome) = true ∧ (backToKw pos (keywordEach kws env)).any (·.1.isNone) = false ∧ (backToKw pos (keywordEach kws env)).filterMap (·.1) = kws.filterMap (·.arg)
  | [], _ => ⟨rfl, rfl, rfl⟩
  | ⟨nm, e, kp⟩ :: kws, h => by
    simp only [kwPlain, Bool.and_eq_true] at h
    obtain ⟨a, b, c⟩ := kw_some h.2 (env := env) (pos := pos)
    obtain ⟨h1, _⟩ := h
    cases nm with
    | none => cases h1
    | some x =>
      refine ⟨a, b, ?_⟩
      show x :: (backToKw pos (keywordEach kws env)).filterMap (·.1) = x :: kws.filterMap (·.arg)
      rw [c]
theorem run_fnkAt {CX : CXT} {k : Nat} {f : Addr} {fd : FuncData} {n : Nat} {ps ks : List Str} {sp : Sp} {E : XK} {g : List Value → List Value → List Value} {gV : List V → List V → List V} {pins : List (Addr × Obj)} {s : Shared} {Q : VK} {us ws : List Value} {vs zs : List V} (F : FnOk X.prog X.w X.K X.mg X.base CX k f fd ps sp) (hr : Room k X.A)
    (hb : KBn X.K fd ps n ks g gV) (hx : PassesAt CX X σ E) (I : Inv X pins σ H s) (r : Vals vs us) (rz : Vals zs ws) (l1 : vs.length = n) (l2 : zs.length = ks.length) (h : sp (gV vs zs) H Q E) : wpAny (model X.prog X.w) X.A (call (.ref f) us (ks.zip ws)) (EP X pins σ Q) X.xe s := by
  have r2 := hb.rel r rz
  refine wpAny_call (codeAny_mono (F.run X.A X.stack s H ⟨us, ks.zip ws⟩ (g us ws) (gV vs zs) Q E hr I.env0 (hb.to s us ws I.kIn (r.length.symm.trans l1) (rz.length.symm.trans l2)) r2 h) fun r s' hq => ?_)
  cases r with
  | error e => exact hx pins H s e s' I hq
  | ok fl =>
    cases fl with
    | ret u => exact I.after hq
    | next => exact False.elim hq
    | brk => exact False.elim hq
    | cont => exact False.elim hq
theorem pe_callG {W : WX} {k n : Nat} {f : Addr} {fd : FuncData} {ps ks : List Str} {sp : Sp} {g : List Value → List Value → List Value} {gV : List V → List V → List V} {x : Str} {p pos : Pos} {es : List Expr} {kws : List Keyword}
    (F : FnOk X.prog X.w X.K X.mg X.base (L2.CX X.prog X.w) k f fd ps sp) (hr : Room k X.A) (hg : Gl X x) (hm : X.mg x = some (.ref f)) (hk : PySem.W.keepIn X.K (.ref f) = true) (hb : KBn X.K fd ps n ks g gV) (tk : Takes X W)
    (hp : es.all plainX = true) (hkw : kwPlain kws = true) (hks : kws.filterMap (·.arg) = ks) (hn : es.length = n) (hdb : (x == ("__debug__" : Str)) = false) :
    PE X (.Call (.Name x p) es kws pos) (fun σ H Q => WL X es σ H fun vs H1 => WL X (kws.map fun k => k.value) σ H1 fun zs H2 => sp (gV vs zs) H2 Q (fun cls d H3 => W cls d σ H3)) := by
  refine ⟨fun pins s σ H Q I h => ?_⟩
  have hkl : ∀ zs : List V, zs.length = (kws.map fun k => k.value).length → zs.length = ks.length := fun zs e => by
    rw [e, ← hks, kw_len hkw, List.length_map]
  replace h := wl_len (wl_imp h fun vs H1 q => wl_len q)
  refine wpAny_Call_Name_kw (ld_glob I hg hm ?_ hdb)
  obtain ⟨k1, k2, k3⟩ := kw_some hkw (env := X.env) (pos := pos)
  have hx : PassesAt (L2.CX X.prog X.w) X σ fun cls d H3 => W cls d σ H3 := passAt tk σ
  cases es with
  | nil =>
    refine PySem.W.callWith_KW0 (h₀ := X.base) I.ok.mod.kin hk k1 (thn (pk_wl.run pos pins s σ H _ I h.2) fun ws s2 ⟨zs, H2, I2, rz, lz, q2⟩ => ⟨I2.kIn, ?_⟩) (by rw [k2]; rfl)
    rw [k3, hks]
    exact run_fnkAt F hr hb hx I2 .nil rz hn (hkl zs lz) q2
  | cons e es =>
    have b2 := (backTo_plain hp (env := X.env) (pos := pos)).2
    have hp1 := (Bool.and_eq_true_iff.mp (List.all_cons ▸ hp)).1
    refine PySem.W.callWith_KW (h₀ := X.base) I.ok.mod.kin hk k1 (thn ((pa_wl hp).run pos pins s σ H _ I h) fun us s1 ⟨vs, H1, I1, r, lv, q⟩ => ?_) (by rw [b2, k2]; rfl) (star_plain hp1)
    refine thn (pk_wl.run pos pins s1 σ H1 _ I1 q) fun ws s2 ⟨zs, H2, I2, rz, lz, q2⟩ => ⟨I2.kIn, ?_⟩
    rw [k3, hks]
    exact run_fnkAt F hr hb hx I2 r rz (lv.trans hn) (hkl zs lz) q2
end
end OI
set_option maxRecDepth 100000
set_option maxHeartbeats 4000000
/-! OI23: calls keep what the interpreter says. -/
namespace OI
open PySem PySem.Spec PyProof.Rows L2
section
variable {T : List FnA} {X : Cx} {K : PySem.W.Frag} {σ σ' : St} {S S' : ASt} {M : List Nat} {H H' : Hp} {Z : Addr → Prop}
theorem distinct_nodup : ∀ {xs : List Nat}, distinct xs = true → xs.Nodup
  | [], _ => .nil
  | x :: xs, h => by
    simp only [distinct, Bool.and_eq_true, Bool.not_eq_true'] at h
    refine List.nodup_cons.mpr ⟨fun hm => ?_, distinct_nodup h.2⟩
    have := List.contains_iff_mem.mpr hm
    rw [h.1] at this; cases this
/-- the first place of j -/
def posOf (j : Nat) : List Nat → Option Nat
  | [] => none
  | x :: xs => if j = x then some 0 else (posOf j xs).map (· + 1)
theorem posOf_at {j : Nat} : ∀ {xs : List Nat} {i : Nat}, posOf j xs = some i → xs[i]? = some j
  | [], _, h => by simp [posOf] at h
  | x :: xs, i, h => by
    simp only [posOf] at h
    split at h
    · cases h; rename_i e; simp [e]
    · obtain ⟨k, hk, rfl⟩ := Option.map_eq_some_iff.mp h
      simpa using posOf_at hk
theorem posOf_some {j : Nat} : ∀ {xs : List Nat}, j ∈ xs → ∃ i, posOf j xs = some i
  | x :: xs, h => by
    simp only [posOf]
    by_cases e : j = x
    · exact ⟨0, by simp [e]⟩
    · obtain ⟨i, hi⟩ := posOf_some (List.mem_of_ne_of_mem e h)
      exact ⟨i + 1, by simp [e, hi]⟩
theorem lookup_pos {α : Type} {j : Nat} : ∀ {ix : List Nat} {vs : List α}, ix.length = vs.length → (ix.zip vs).lookup j = (posOf j ix).bind fun i => vs[i]?
  | [], [], _ => by simp [posOf]
  | x :: ix, v :: vs, h => by
    simp only [List.zip_cons_cons, posOf, List.lookup_cons]
    by_cases e : j = x
    · subst e; simp
    · have e1 : (j == x) = false := by simpa using e
      rw [e1, if_neg e, lookup_pos (by simpa using h)]
      cases posOf j ix <;> simp
theorem Tmps.lens {rs : List TR} {vs : List PV} {ws : List V} {Fl : List (List Addr)} (h : Tmps K S rs vs ws Fl) : rs.length = vs.length ∧ ws.length = vs.length ∧ Fl.length = vs.length := by
  induction h with
  | nil => exact ⟨rfl, rfl, rfl⟩
  | cons _ _ _ ih => simp [ih.1, ih.2.1, ih.2.2]
theorem Tmps.apart {rs : List TR} {vs : List PV} {ws : List V} {Fl : List (List Addr)} (h : Tmps K S rs vs ws Fl) : ∀ {i k : Nat} {r : TR} {F G : List Addr}, i < k → rs[i]? = some r → Fl[i]? = some F → Fl[k]? = some G → r.2 = none → ∀ a ∈ F, a ∉ G := by
  induction h with
  | nil => intro i k r F G _ h; simp at h
  | @cons r0 rs v vs w ws F0 Fl t _ dj ih =>
    intro i k r F G hik h1 h2 h3 hn
    cases k with
    | zero => omega
    | succ k =>
      cases i with
      | zero =>
        simp at h1 h2
        subst h1 h2
        exact dj hn G (List.mem_of_getElem? (by simpa using h3))
      | succ i => exact ih (i := i) (k := k) (by omega) (by simpa using h1) (by simpa using h2) (by simpa using h3) hn
/-- two in hand, not borrowed of one slot -/
theorem Tmps.disj {rs : List TR} {vs : List PV} {ws : List V} {Fl : List (List Addr)} (o : Ok K σ S) (h : Tmps K S rs vs ws Fl) {i k : Nat} {r q : TR} {F G : List Addr} (hik : i ≠ k) (h1 : rs[i]? = some r) (h2 : rs[k]? = some q) (h3 : Fl[i]? = some F) (h4 : Fl[k]? = some G)
    (hs : ∀ y, r.2 = some y → q.2 ≠ some y) : ∀ a ∈ F, a ∉ G := by
  intro a ha hb
  obtain ⟨r', v, w, e1, _, _, t1⟩ := h.all i F h3
  obtain ⟨q', v', w', e2, _, _, t2⟩ := h.all k G h4
  rw [h1] at e1
  rw [h2] at e2
  cases e1
  cases e2
  cases hr : r.2 with
  | none =>
    rcases Nat.lt_or_gt_of_ne hik with z | z
    · exact h.apart z h1 h3 h4 hr a ha hb
    · cases hq : q.2 with
      | none => exact h.apart z h2 h4 h3 hq a hb ha
      | some y => exact t1.own hr y a ha (t2.bor y hq a hb)
  | some y =>
    cases hq : q.2 with
    | none => exact t2.own hq y a hb (t1.bor y hr a ha)
    | some y' =>
      have ne : y ≠ y' := fun e => hs y hr (by rw [hq, e])
      exact o.apart y y' ne a (t1.bor y hr a ha) (t2.bor y' hq a hb)
def backSrc (back : Option Pr) (e : E) (r : TR) : Prop := match back with
  | none => r.2 = none
  | some p => e.isPr p = true ∧ r.2 = some p.x
theorem argOk_at {g : FnA} {back : Option Pr} : ∀ {ix : List Nat} {es : List E} {rs : List TR} {i j : Nat}, argOk g back ix es rs = true → ix[i]? = some j → ∃ e r, es[i]? = some e ∧ rs[i]? = some r ∧
    (if g.io = some j then r.1 = .d g.dio ∧ backSrc back e r else ∀ p, back = some p → r.2 ≠ some p.x)
  | [], es, rs, i, j, h, hi => by simp at hi
  | x :: ix, [], rs, i, j, h, hi => by simp [argOk] at h
  | x :: ix, e :: es, [], i, j, h, hi => by simp [argOk] at h
  | x :: ix, e :: es, r :: rs, 0, j, h, hi => by
    simp at hi
    subst hi
    simp only [argOk, Bool.and_eq_true] at h
    refine ⟨e, r, rfl, rfl, ?_⟩
    have h1 := h.1
    by_cases c : g.io = some x
    · rw [if_pos c] at h1 ⊢
      simp only [Bool.and_eq_true, beq_iff_eq] at h1
      refine ⟨h1.1, ?_⟩
      cases back with
      | none => simpa [backSrc] using h1.2
      | some p => simpa [backSrc] using h1.2
    · rw [if_neg c] at h1 ⊢
      intro p hp
      subst hp
      intro e2
      simp [srcFree, e2] at h1
  | x :: ix, e :: es, r :: rs, i + 1, j, h, hi => by
    simp only [argOk, Bool.and_eq_true] at h
    simpa using argOk_at h.2 (by simpa using hi)
theorem argOk_len {g : FnA} {back : Option Pr} : ∀ {ix : List Nat} {es : List E} {rs : List TR}, argOk g back ix es rs = true → ix.length = rs.length
  | [], [], [], _ => rfl
  | [], [], _ :: _, h => by simp [argOk] at h
  | [], _ :: _, _, h => by simp [argOk] at h
  | _ :: _, [], _, h => by simp [argOk] at h
  | _ :: _, _ :: _, [], h => by simp [argOk] at h
  | _ :: ix, _ :: es, _ :: rs, h => by
    simp only [argOk, Bool.and_eq_true] at h
    simp [argOk_len h.2]
theorem mapM_at {α β : Type} {f : α → Option β} : ∀ {xs : List α} {ys : List β}, xs.mapM f = some ys → ys.length = xs.length ∧ ∀ (i : Nat) (x : α), xs[i]? = some x → ∃ y, ys[i]? = some y ∧ f x = some y
  | [], ys, h => by simp at h; subst h; simp
  | x :: xs, ys, h => by
    simp only [List.mapM_cons, Option.bind_eq_bind, Option.bind_eq_some_iff, Option.pure_def, Option.some.injEq] at h
    obtain ⟨y, hy, zs, hzs, rfl⟩ := h
    obtain ⟨l, q⟩ := mapM_at hzs
    refine ⟨by simp [l], fun i x' hi => ?_⟩
    cases i with
    | zero => simp at hi; subst hi; exact ⟨y, rfl, hy⟩
    | succ i => simpa using q i x' (by simpa using hi)
/-- the heap changed apart from all slots -/
theorem Ok.atK (o : Ok K σ S) {F : List Addr} (kp : Kp (fun a => a ∈ F) S.H H') (live : ∀ a, S.H a ≠ none → H' a ≠ none) (hF : ∀ a ∈ F, (∀ i, a ∉ S.Fs i) ∧ ¬ S.Z a) : Ok K σ (S.atH H') where
  len := o.len
  slot := fun i τ v h1 h2 => let ⟨w, e, r⟩ := o.slot i τ v h1 h2; ⟨w, e, r.keep kp (fun a ha hb => (hF a hb).1 i ha) (fun a z hb => (hF a hb).2 z) (fun _ z => z)⟩
  no := o.no
  al := fun y x ks h => let ⟨wx, wy, e1, e2, f⟩ := o.al y x ks h; ⟨wx, wy, e1, e2, fun H2 hk => f H2 fun a ha ob e => hk a ha ob (kp a ob e (.inr fun hb => (hF a hb).1 x ha))⟩
  apart := o.apart
  nz := o.nz
  trk := fun i a ha => let ⟨ob, e, im⟩ := o.trk i a ha; ⟨ob, kp a ob e (.inr fun hb => (hF a hb).1 i ha), im⟩
  ztr := fun a z => live a (o.ztr a z)
end
end OI
set_option maxRecDepth 100000
set_option maxHeartbeats 4000000
/-! OI24: calls. -/
namespace OI
open PySem PySem.Spec PyProof.Rows L2
section
variable {T : List FnA} {X : Cx} {K : PySem.W.Frag} {σ σ' : St} {S S' : ASt} {M : List Nat} {H H' : Hp} {Z : Addr → Prop}
theorem me_callF {N : List Str} {sc : Scope} {f : Nat} {args : List E} {ix : List Nat} {back : Option Pr} {e : Expr} (he : meE T N sc (.call f args ix back) e = true) : ∃ x p1 qs kws pos g, e = .Call (.Name x p1) qs kws pos ∧ T[f]? = some g ∧ Str.ofString g.name = x ∧ glB sc x = true ∧ kwPlain kws = true ∧
    ix = ixOf (g.ns.map Str.ofString) qs.length kws ∧ meEs T N sc args (qs ++ kws.map fun k => k.value) = true := by
  simp only [meE] at he
  split at he
  · rename_i x p1 qs kws pos
    cases hg : T[f]? with
    | none => simp [hg] at he
    | some g =>
      simp only [hg, Bool.and_eq_true, decide_eq_true_eq] at he
      obtain ⟨⟨⟨⟨h1, h2⟩, h3⟩, h4⟩, h5⟩ := he
      exact ⟨_, _, _, _, _, g, rfl, rfl, h1, h2, h3, h4, h5⟩
  · cases he
theorem Got.mkRet {env' : Env} {Γ' : List Gt} {dr : Nat} {v : PV} {w : V} {F' : List Addr} {S3 : ASt} (e1 : S3.env = env') (e2 : S3.G = Γ') (st : Stp M S S3) (ok : Ok K σ S3) (rv : RepT K S3.H (fun _ => False) (retT dr) v w F') (own : ∀ i, ∀ a ∈ F', a ∉ S3.Fs i) (nz : ∀ a ∈ F', ¬ S3.Z a) (new : ∀ a ∈ F', S.H a = none ∨ Wr M S a) :
    Got K σ M S env' Γ' (retT dr, none) v S3 w F' :=
  ⟨e1, e2, st, ok, ⟨rv.keep (W := fun _ => False) .refl (fun _ _ z => z) (fun _ z => z.elim) (fun _ z => z.elim), fun _ i a ha => own i a ha, fun _ e => (nomatch e), nz⟩, fun _ => new⟩
theorem List.Nodup.getElem?_inj_of {α : Type} {xs : List α} (h : xs.Nodup) {i j : Nat} {x : α} (hi : xs[i]? = some x) (hj : xs[j]? = some x) : i = j := by
  induction xs generalizing i j with
  | nil => simp at hi
  | cons y ys ih =>
    rw [List.nodup_cons] at h
    cases i with
    | zero =>
      cases j with
      | zero => rfl
      | succ j =>
        simp at hi hj
        subst hi
        exact absurd (List.mem_of_getElem? hj) h.1
    | succ i =>
      cases j with
      | zero =>
        simp at hi hj
        subst hj
        exact absurd (List.mem_of_getElem? hi) h.1
      | succ j => rw [ih h.2 (i := i) (j := j) (by simpa using hi) (by simpa using hj)]
theorem snd_call {f : Nat} {args : List E} {ix : List Nat} {back : Option Pr} (hs : ∀ e ∈ args, SndE T e) : SndE T (.call f args ix back) := by
  have ih := snds_iff.mp (snds_of hs)
  refine snd_iff.mpr fun X G ER W k g e he σ S r Γ' ht o => ?_
  obtain ⟨x, p1, qs, kws, pos, gf, rfl, hT, hname, hgl, hkw, hix, hma⟩ := me_callF he
  simp only [typE, hT] at ht
  cases t1 : typEs T args S.G with
  | none => simp [t1] at ht
  | some q1 =>
    obtain ⟨rs, Γ1⟩ := q1
    simp only [t1] at ht
    split at ht
    · rename_i hc
      cases ht
      simp only [callOk, Bool.and_eq_true, decide_eq_true_eq, List.all_eq_true] at hc
      obtain ⟨⟨⟨hao, ⟨⟨⟨hdis, hil⟩, hlt⟩, hcov⟩⟩, hback⟩, hio⟩ := hc
      have hnd := distinct_nodup hdis
      obtain ⟨a, fd, ps, hmg, hkeep, FO, hKB⟩ := g.fns.fn f gf hT
      have hsig := g.fns.sig f gf hT
      obtain ⟨gg, KB⟩ := hKB qs.length kws hkw (by rw [← hix]; exact hil) (by rw [← hix]; exact hnd) (by rw [← hix]; exact hlt)
      rw [← hix] at KB
      have hpq : (qs ++ kws.map fun k => k.value).all plainX = true := meEs_plain hma
      have hpq1 : qs.all plainX = true := by
        rw [List.all_append, Bool.and_eq_true] at hpq
        exact hpq.1
      have rule := pe_callG (p := p1) (pos := pos) FO g.room (glB_gl hgl) (by rw [← hname]; exact hmg) hkeep KB g.tk hpq1 hkw rfl rfl (glB_ok hgl).2
      have s1 := ih X G ER W k g _ hma σ S rs Γ1 t1 o
      have go : ∀ Q : VK, WL X (qs ++ kws.map fun k => k.value) σ S.H (fun ws H2 => SpecOf X.K ER (G.run f) gf (byIx gf.np ix ws) H2 Q fun cls d H3 => W cls d σ H3) → WE X (.Call (.Name x p1) qs kws pos) σ S.H Q := fun Q h => .of rule (wl_app h)
      have tE : tchE (.call f args ix back) = tchEs args ++ backX back := by simp [tchE]
      have mA : ∀ i ∈ tchEs args, i ∈ tchE (.call f args ix back) := fun i hi => by rw [tE]; exact List.mem_append_left _ hi
      -- the promise, by what the def gives
      have call : ∀ (vs : List PV) (env2 : Env) (pvs : List PV), evalEs G args S.env = .ok (vs, env2) → argsBy gf.np ix vs gf.dfl = some pvs → ∀ (Q : VK),
          (∀ (S2 : ASt) (ws : List V) (Fl : List (List Addr)), Gots X.K σ (tchEs args) S env2 Γ1 rs vs S2 ws Fl → VarsAt σ args ws → ∀ (F : List Addr), (gf.io = none → F = []) →
            (∀ j, gf.io = some j → ∃ (i : Nat) (e0 : E) (r0 : TR) (w0 : V), ix[i]? = some j ∧ args[i]? = some e0 ∧ rs[i]? = some r0 ∧ r0.1 = .d gf.dio ∧ backSrc back e0 r0 ∧ Fl[i]? = some F ∧ ws[i]? = some w0 ∧ (byIx gf.np ix ws)[j]? = some w0) →
            match G.run f pvs with
            | .ok (v, o) => ∀ (w : V) (H' : Hp) (F' O : List Addr), Kp (fun a => a ∈ F) S2.H H' → (∀ a, S2.H a ≠ none → H' a ≠ none) → RepT X.K H' (fun _ => False) (retT gf.dr) v w F' → (∀ a ∈ F', a ∈ F ∨ S2.H a = none) →
                (∀ j u wj, gf.io = some j → o = some u → (byIx gf.np ix ws)[j]? = some wj → Rep X.K H' (fun _ => False) gf.dio u wj O ∧ (∀ a ∈ O, a ∈ F ∨ S2.H a = none) ∧ ∀ a ∈ O, a ∉ F') → Q w H'
            | .exc x => ∀ cls e H', ER x cls e H' → Kp (fun a => a ∈ F) S2.H H' → (∀ a, S2.H a ≠ none → H' a ≠ none) → W cls e σ H'
            | .stuck => False) → WE X (.Call (.Name x p1) qs kws pos) σ S.H Q := by
        intro vs env2 pvs ev1 hargs Q hk
        refine go Q (s1.okV vs env2 ev1 _ fun S2 ws Fl g2 va => ?_)
        obtain ⟨l1, l2, l3⟩ := g2.tmps.lens
        have lix : ix.length = vs.length := (argOk_len hao).trans l1
        obtain ⟨lp, hp⟩ := mapM_at hargs
        have at_ : ∀ j, j < gf.np → ∃ (i : Nat) (v : PV) (w : V) (r : TR) (F : List Addr) (e : E), ix[i]? = some j ∧ vs[i]? = some v ∧ ws[i]? = some w ∧ rs[i]? = some r ∧ Fl[i]? = some F ∧ Tmp X.K S2 r.1 r.2 v w F ∧ pvs[j]? = some v ∧ (byIx gf.np ix ws)[j]? = some w ∧ args[i]? = some e ∧
            (if gf.io = some j then r.1 = .d gf.dio ∧ backSrc back e r else ∀ p, back = some p → r.2 ≠ some p.x) := by
          intro j hj
          have hm : j ∈ ix := by simpa using hcov j (List.mem_range.mpr hj)
          obtain ⟨i, hi⟩ := posOf_some hm
          have hix2 := posOf_at hi
          have hil2 : i < vs.length := by rw [← lix]; exact (List.getElem?_eq_some_iff.mp hix2).1
          have hFi : Fl[i]? = some Fl[i] := List.getElem?_eq_getElem (by omega)
          obtain ⟨r', v', w', e1, e2, e3, tm⟩ := g2.tmps.all i _ hFi
          obtain ⟨e', r'', e4, e5, cond⟩ := argOk_at hao hix2
          rw [e1] at e5
          cases e5
          refine ⟨i, v', w', r', _, e', hix2, e2, e3, e1, hFi, tm, ?_, ?_, e4, cond⟩
          · obtain ⟨y, hy, hy2⟩ := hp j j (by simp [hj])
            rw [lookup_pos lix, hi] at hy2
            simp only [Option.bind_some, e2] at hy2
            rw [hy, ← hy2]
          · unfold byIx
            rw [List.getElem?_map]
            simp only [List.getElem?_range hj, Option.map_some]
            rw [lookup_pos (by rw [lix, l2]), hi]
            simp [e3]
        -- the changed one
        obtain ⟨F, hF1, hF2⟩ : ∃ F : List Addr, (gf.io = none → F = []) ∧ (∀ j, gf.io = some j → ∃ (i : Nat) (e0 : E) (r0 : TR) (w0 : V), ix[i]? = some j ∧ args[i]? = some e0 ∧ rs[i]? = some r0 ∧ r0.1 = .d gf.dio ∧ backSrc back e0 r0 ∧ Fl[i]? = some F ∧ ws[i]? = some w0 ∧ (byIx gf.np ix ws)[j]? = some w0) := by
          rcases (Option.eq_none_or_eq_some gf.io) with hi | ⟨j0, hi⟩
          · exact ⟨[], fun _ => rfl, fun j h => by rw [hi] at h; cases h⟩
          · have hj0 : j0 < gf.np := by rw [hi] at hio; simpa using hio
            obtain ⟨i, v, w, r, F, e, q1, q2, q3, q4, q5, tm, q6, q7, q8, cond⟩ := at_ j0 hj0
            rw [if_pos hi] at cond
            refine ⟨F, fun h => (by rw [hi] at h; cases h), fun j hj => ?_⟩
            rw [hi] at hj
            cases hj
            exact ⟨i, e, r, w, q1, q8, q4, cond.1, cond.2, q5, q3, q7⟩
        have k3 := hk S2 ws Fl g2 va F hF1 hF2
        -- what is lent
        let Zc : Addr → Prop := fun a => S2.Z a ∨ ∃ (i j : Nat) (L : List Addr), ix[i]? = some j ∧ gf.io ≠ some j ∧ Fl[i]? = some L ∧ a ∈ L
        refine ⟨pvs, Zc, F, by simp [byIx], by simpa using lp, fun j v w hv hw => ?_, fun a ha hz => ?_, hF1, fun a hz => ?_, k3⟩
        · have hj : j < gf.np := by
            have := (List.getElem?_eq_some_iff.mp hv).1
            rw [lp] at this
            simpa using this
          obtain ⟨i, v', w', r, L, e, q1, q2, q3, q4, q5, tm, q6, q7, q8, cond⟩ := at_ j hj
          rw [hv] at q6
          rw [hw] at q7
          cases q6
          cases q7
          by_cases hi : gf.io = some j
          · rw [if_pos hi] at cond
            obtain ⟨i0, e0, r0, w0, p1, p2, p3, p4, p5, p6, p7, p8⟩ := hF2 j hi
            have ei : i0 = i := List.Nodup.getElem?_inj_of hnd p1 q1
            subst ei
            rw [q5] at p6
            cases p6
            have tr := tm.rep
            rw [cond.1] at tr
            rw [if_pos hi]
            show Rep X.K S2.H Zc (if gf.io = some j then gf.dio else 0) v w _
            rw [if_pos hi]
            exact Rep.keep (W := fun _ => False) .refl (fun _ _ z => z) (fun _ _ z => z) (fun _ z => .inl z) tr
          · rw [if_neg hi]
            show Rep X.K S2.H Zc (if gf.io = some j then gf.dio else 0) v w []
            rw [if_neg hi]
            have tr := tm.rep
            cases e1 : r.1 with
            | cl => rw [e1] at tr; exact tr.cl0.2 _ _
            | d n => rw [e1] at tr; exact Rep.freeze (fun _ z => .inl z) (fun a ha => .inr ⟨i, j, L, q1, hi, q5, ha⟩) tr
        · rcases Option.eq_none_or_eq_some gf.io with hi | ⟨j0, hi⟩
          · rw [hF1 hi] at ha; cases ha
          · obtain ⟨i0, e0, r0, w0, p1, p2, p3, p4, p5, p6, p7, p8⟩ := hF2 j0 hi
            rcases hz with hz | ⟨i, j, L, q1, q2, q3, q4⟩
            · obtain ⟨_, _, _, _, _, _, tm⟩ := g2.tmps.all i0 F p6
              exact tm.nz a ha hz
            · have ne : i0 ≠ i := fun e => by
                subst e
                rw [p1] at q1
                cases q1
                exact q2 hi
              obtain ⟨e', r', d1, d2, cond⟩ := argOk_at hao q1
              rw [if_neg q2] at cond
              refine g2.tmps.disj g2.ok ne p3 d2 p6 q3 (fun y hy => ?_) a ha q4
              unfold backSrc at p5
              split at p5
              · rw [p5] at hy; cases hy
              · rename_i p
                rw [p5.2] at hy
                cases hy
                exact cond p rfl
        · rcases hz with hz | ⟨i, j, L, q1, q2, q3, q4⟩
          · exact g2.ok.ztr a hz
          · obtain ⟨_, _, _, _, _, _, tm⟩ := g2.tmps.all i L q3
            obtain ⟨ob, eo, _⟩ := tm.rep.trk a q4
            rw [eo]; simp
      refine ⟨fun v env' ev Q hQ => ?_, fun y ev Q hQ => ?_⟩
      · simp only [evalE, hsig, Res.bind_ok] at ev
        obtain ⟨⟨vs, env2⟩, ev1, ev2⟩ := ev
        cases hab : argsBy gf.np ix vs gf.dfl with
        | none => simp [hab] at ev2
        | some pvs =>
          simp only [hab] at ev2
          obtain ⟨⟨v1, o1⟩, hrun, ev3⟩ := Res.bind_ok.mp ev2
          obtain ⟨env3, hwb, e3⟩ := Res.bind_ok.mp ev3
          cases e3
          refine call vs env2 pvs ev1 hab Q fun S2 ws Fl g2 va F hF1 hF2 => ?_
          rw [hrun]
          intro w H' F' O kp live rv hnew hO
          have hnS : ∀ a, S2.H a = none → S.H a = none := fun a ha => by
            cases q : S.H a with
            | none => rfl
            | some u => exact absurd ha (g2.stp.live a (by simp [q]))
          cases back with
          | none =>
            simp only [writeBack, Res.ok.injEq] at hwb
            subst hwb
            have hF : ∀ a ∈ F, ((∀ i, a ∉ S2.Fs i) ∧ ¬ S2.Z a) ∧ (S.H a = none ∨ Wr (tchEs args) S a) := fun a ha => by
              rcases Option.eq_none_or_eq_some gf.io with hi | ⟨j0, hi⟩
              · rw [hF1 hi] at ha; cases ha
              · obtain ⟨i0, e0, r0, w0, p1, p2, p3, p4, p5, p6, p7, p8⟩ := hF2 j0 hi
                obtain ⟨r', _, _, d1, _, _, tm⟩ := g2.tmps.all i0 F p6
                rw [p3] at d1
                cases d1
                have p5 : r0.2 = none := p5
                exact ⟨⟨fun i => tm.own p5 i a ha, tm.nz a ha⟩, g2.new i0 r0 F p3 p6 p5 a ha⟩
            refine hQ (S2.atH H') w F' (Got.mkRet g2.env g2.g ?_ (g2.ok.atK kp live fun a ha => (hF a ha).1) rv (fun i a ha => (hnew a ha).elim (fun h => (hF a h).1.1 i) fun h => (g2.ok.fresh h).1 i) (fun a ha => (hnew a ha).elim (fun h => (hF a h).1.2) fun h => (g2.ok.fresh h).2)
              fun a ha => (hnew a ha).elim (fun h => (hF a h).2.imp id fun ⟨i, hi, z⟩ => ⟨i, mA i hi, z⟩) fun h => .inl (hnS a h))
            have mM : ∀ i ∈ tchEs args, i ∈ tchE (.call f args ix none) := mA
            have st := g2.stp.mono mM
            refine ⟨st.env, st.fs, fun a ob e q => kp a ob (st.keep a ob e q) (q.imp id fun n hb => ?_), st.z, st.znew, st.fnew, fun a z => live a (st.live a z)⟩
            rcases (hF a hb).2 with z | ⟨i, hi, z⟩
            · rw [e] at z; cases z
            · exact n ⟨i, mM i hi, z⟩
          | some p =>
            have hbk : gf.io.isSome = true ∧ depthAt Γ1 p = some gf.dio := by simpa using hback
            obtain ⟨j0, hi⟩ := Option.isSome_iff_exists.mp hbk.1
            obtain ⟨i0, e0, r0, w0, p1, p2, p3, p4, p5, p6, p7, p8⟩ := hF2 j0 hi
            obtain ⟨hpr, hsrc⟩ : e0.isPr p = true ∧ r0.2 = some p.x := p5
            obtain ⟨hee, hy, hk0⟩ : e0 = .var p.x ∧ p.y = none ∧ p.k0 = [] := by
              cases e0 <;> simp only [E.isPr, Bool.false_eq_true] at hpr
              simp only [Bool.and_eq_true, beq_iff_eq, Option.isNone_iff_eq_none, List.isEmpty_iff] at hpr
              exact ⟨by rw [hpr.2], hpr.1.1, hpr.1.2⟩
            subst hee
            obtain ⟨w1, e1, hσ⟩ := va i0 p.x p2
            rw [p7] at e1
            cases e1
            obtain ⟨r', _, _, d1, _, _, tm⟩ := g2.tmps.all i0 F p6
            rw [p3] at d1
            cases d1
            cases o1 with
            | none => simp [writeBack] at hwb
            | some u =>
              have hks : p.ks = [] := by simp [Pr.ks, hk0]
              have hwb2 : writePath env2 p.x p.ks u = .ok env' := hwb
              rw [hks] at hwb2
              simp only [writePath, putPath, Res.bind_ok, Res.ok.injEq] at hwb2
              obtain ⟨v2, hv2, v3, hv3, e5⟩ := hwb2
              subst hv3
              subst e5
              obtain ⟨gx, _⟩ := depthAt_ok hbk.2
              rw [hk0] at gx
              simp only [List.length_nil, Nat.add_zero] at gx
              have hv2' : S2.env[p.x]? = some (some v2) := by rw [g2.env]; exact getV_ok.mp hv2
              obtain ⟨rO, sO, dO⟩ := hO j0 u w0 hi rfl p8
              have hFx : ∀ a ∈ F, a ∈ S2.Fs p.x := fun a ha => tm.bor p.x hsrc a ha
              have kpx : Kp (fun a => a ∈ S2.Fs p.x) S2.H H' := fun a ob e q => kp a ob e (q.imp id fun n hb => n (hFx a hb))
              have hFO : ∀ a ∈ O, (a ∈ S2.Fs p.x ∨ ∀ j, a ∉ S2.Fs j) ∧ ¬ S2.Z a := fun a ha => by
                rcases sO a ha with z | z
                · exact ⟨.inl (hFx a z), g2.ok.nz p.x a (hFx a z)⟩
                · obtain ⟨f1, f2⟩ := g2.ok.fresh z
                  exact ⟨.inr f1, f2⟩
              have ok3 := g2.ok.wr (x := p.x) (n := gf.dio) (wx := w0) (env' := setV S2.env p.x (some u)) (F' := O) (H' := H') (Z' := S2.Z) (G' := aliveA p 1 S2.G) (by rw [g2.g]; exact gx) hσ setV_len (fun j hj => by rw [setV_at, if_neg hj])
                (fun v hv => by
                  rw [setV_at, if_pos rfl, hv2'] at hv
                  simp at hv
                  subst hv
                  exact Rep.keep (W := fun _ => False) .refl (fun _ _ z => z) (fun _ z => z.elim) (fun _ z => z.elim) rO)
                (fun hn => absurd (by rw [setV_at, if_pos rfl, hv2']; rfl) (hn u)) kpx (fun _ z => z) (fun a z => .inl z) hFO (fun a ha => Rep.trk rO a ha) live (fun j τ => aliveA_t) fun y x' ks' hal => by
                  obtain ⟨a1, a2⟩ := aliveA_al hal
                  exact ⟨a1, .inl (a2.elim id fun h => absurd h.1 (by decide))⟩
              have hxM : p.x ∈ tchE (.call f args ix (some p)) := by rw [tE]; exact List.mem_append_right _ (by simp [backX])
              have st := g2.stp.mono mA
              refine hQ _ w F' (Got.mkRet (by show setV S2.env p.x _ = _; rw [g2.env]) (by show aliveA p 1 S2.G = _; rw [g2.g]; rfl) ?_ ok3 rv (fun i a ha => ?_) (fun a ha => (hnew a ha).elim (fun h => g2.ok.nz p.x a (hFx a h)) fun h => (g2.ok.fresh h).2)
                fun a ha => (hnew a ha).elim (fun h => (st.fnew p.x a (hFx a h)).elim (fun z => .inr ⟨p.x, hxM, z⟩) id) fun h => .inl (hnS a h))
              · refine ⟨fun i hin => ?_, fun i hin => ?_, ?_, st.z, st.znew, fun i a ha => ?_, fun a z => live a (st.live a z)⟩
                · have hne : i ≠ p.x := fun e => hin (e ▸ hxM)
                  show (setV S2.env p.x _)[i]? = _
                  rw [setV_at, if_neg hne]
                  exact st.env i hin
                · have hne : i ≠ p.x := fun e => hin (e ▸ hxM)
                  show (if i = p.x then O else S2.Fs i) = _
                  rw [if_neg hne]
                  exact st.fs i hin
                · exact Kp.trans st fun a ob e q => kpx a ob e (q.imp id fun n hb => n ⟨p.x, hxM, hb⟩)
                · have ha : a ∈ (if i = p.x then O else S2.Fs i) := ha
                  by_cases ei : i = p.x
                  · rw [if_pos ei] at ha
                    rw [ei]
                    rcases sO a ha with z | z
                    · exact st.fnew p.x a (hFx a z)
                    · refine .inr (.inl ?_)
                      cases q : S.H a with
                      | none => rfl
                      | some u => exact absurd z (st.live a (by simp [q]))
                  · rw [if_neg ei] at ha
                    exact st.fnew i a ha
              · show a ∉ (if i = p.x then O else S2.Fs i)
                by_cases ei : i = p.x
                · rw [if_pos ei]
                  exact fun hb => dO a hb ha
                · rw [if_neg ei]
                  exact (hnew a ha).elim (fun h hb => g2.ok.apart i p.x ei a hb (hFx a h)) fun h => (g2.ok.fresh h).1 i
      · simp only [evalE, hsig, Res.bind_exc] at ev
        rcases ev with ev | ⟨⟨vs, env2⟩, ev1, ev2⟩
        · exact go Q (s1.exc y ev _ (hQ.mono mA))
        · cases hab : argsBy gf.np ix vs gf.dfl with
          | none => simp [hab] at ev2
          | some pvs =>
            simp only [hab] at ev2
            rcases Res.bind_exc.mp ev2 with hrun | ⟨q, hrun, ev3⟩
            · refine call vs env2 pvs ev1 hab Q fun S2 ws Fl g2 va F hF1 hF2 => ?_
              rw [hrun]
              intro cls e H' er kp lv
              have st := g2.stp.mono mA
              refine hQ cls e H' er (fun a ob ea q => kp a ob (st.keep a ob ea q) (q.imp id fun n hb => ?_)) fun a z => lv a (st.live a z)
              rcases Option.eq_none_or_eq_some gf.io with hi | ⟨j0, hi⟩
              · rw [hF1 hi] at hb; cases hb
              · obtain ⟨i0, e0, r0, w0, p1, p2, p3, p4, p5, p6, p7, p8⟩ := hF2 j0 hi
                obtain ⟨r', _, _, d1, _, _, tm⟩ := g2.tmps.all i0 F p6
                rw [p3] at d1
                cases d1
                cases back with
                | none =>
                  rcases g2.new i0 r0 F p3 p6 p5 a hb with z | ⟨i, hi2, z⟩
                  · rw [ea] at z; cases z
                  · exact n ⟨i, mA i hi2, z⟩
                | some p =>
                  have hx : p.x ∈ tchE (.call f args ix (some p)) := by rw [tE]; exact List.mem_append_right _ (by simp [backX])
                  rcases st.fnew p.x a (tm.bor p.x p5.2 a hb) with z | z | z
                  · exact n ⟨p.x, hx, z⟩
                  · rw [ea] at z; cases z
                  · exact n z
            · rcases Res.bind_exc.mp ev3 with ev3 | ⟨_, _, ev3⟩
              · exfalso
                unfold writeBack at ev3
                split at ev3
                · cases ev3
                · exact writePath_exc ev3
                · cases ev3
              · cases ev3
    · cases ht
end
end OI
set_option maxRecDepth 100000
set_option maxHeartbeats 4000000
/-! OI25: how arguments bind. -/
namespace OI
open PySem PySem.Spec PyProof.Rows L2
theorem lookup_none_iff {α β : Type} [BEq α] [LawfulBEq α] {k : α} : ∀ {l : List (α × β)}, l.lookup k = none ↔ k ∉ l.map (·.1)
  | [] => by simp
  | (a, b) :: l => by
    rw [List.lookup_cons]
    by_cases e : k = a
    · subst e; simp
    · have e1 : (k == a) = false := by simpa using e
      rw [e1]
      have := lookup_none_iff (k := k) (l := l)
      simp only [List.map_cons, List.mem_cons, not_or]
      simp [e, this]
theorem kw_loop {f : Str × Value → List (Str × Value) × List (Str × Value) → Sem (ForInStep (List (Str × Value) × List (Str × Value)))} {ps : List Str}
    (hf : ∀ x s, x.1 ∈ ps → s.1.lookup x.1 = none → f x s = pure (.yield (s.1 ++ [(x.1, x.2)], s.2))) :
    ∀ {kw s0 e : List (Str × Value)}, (∀ k ∈ kw.map (·.1), k ∈ ps) → (s0.map (·.1) ++ kw.map (·.1)).Nodup → (forIn kw (s0, e) f : Sem _) = pure (s0 ++ kw, e)
  | [], s0, e, _, _ => by rw [List.forIn_nil, List.append_nil]
  | x :: kw, s0, e, h1, h2 => by
    have hx : x.1 ∉ s0.map (·.1) := fun hm => by
      rw [List.nodup_append] at h2
      exact h2.2.2 _ hm _ (by simp) rfl
    have hx' : ¬ x.1 ∈ s0.map (·.1) := hx
    rw [List.forIn_cons, hf x (s0, e) (h1 _ (by simp)) (lookup_none_iff.mpr hx)]
    show (pure _ >>= _ : Sem _) = _
    rw [pure_bind]
    show forIn kw (s0 ++ [(x.1, x.2)], e) f = _
    rw [kw_loop hf (fun k hk => h1 k (by simp only [List.map_cons, List.mem_cons]; exact .inr hk)) (by simpa using h2)]
    simp
theorem zip_fst {α β : Type} : ∀ {as : List α} {bs : List β}, (as.zip bs).map (·.1) = as.take bs.length
  | [], _ => by simp
  | _ :: _, [] => by simp
  | a :: as, b :: bs => by simp [zip_fst (as := as) (bs := bs)]
theorem bind_plain {fd : FuncData} {ps : List Str} (h1 : fd.params.posonlyargs = []) (h2 : fd.params.args.map (·.arg) = ps) (h3 : fd.params.vararg = none) (h4 : fd.params.kwonlyargs = []) (h5 : fd.params.kwarg = none) (hd : fd.defaults = .none) (us ws : List Value) (ks : List Str) (hk : ks.length = ws.length) (hl : us.length + ks.length = ps.length)
    (hsub : ∀ k ∈ ks, k ∈ ps) (hnd : (ps.take us.length ++ ks).Nodup) (hall : ∀ p ∈ ps, p ∈ ps.take us.length ∨ p ∈ ks) :
    bindArgs fd ⟨us, ks.zip ws⟩ = pure (ps.filterMap fun n => ((ps.zip us ++ ks.zip ws).lookup n).map (n, ·)) := by
  have e1 : (ps.zip us).map (·.1) = ps.take us.length := zip_fst
  have e2 : (ks.zip ws).map (·.1) = ks := by rw [zip_fst, ← hk, List.take_length]
  have e3 : (ps.filter fun n => ((ps.zip us ++ ks.zip ws).lookup n).isNone) = [] := by
    rw [List.filter_eq_nil_iff]
    intro p hp
    simp only [Option.isNone_iff_eq_none]
    intro h
    have := lookup_none_iff.mp h
    rw [List.map_append, e1, e2] at this
    rcases hall p hp with h | h
    · exact this (List.mem_append_left _ h)
    · exact this (List.mem_append_right _ h)
  unfold bindArgs
  simp only [h1, h2, h3, h4, h5, hd]
  simp only [List.map_nil, List.nil_append, List.append_nil]
  rw [kw_loop (ps := ps) (fun x s hx hs => by
    have c : ps.contains x.fst = true := List.contains_iff_mem.mpr hx
    simp only [c, Bool.true_or, if_true, hs]
    rfl) (by rw [e2]; exact hsub) (by rw [e1, e2]; exact hnd)]
  rw [pure_bind]
  have hs : seqItems? Value.none = pure none := by rfl
  rw [hs, pure_bind]
  have hlen : ¬ (us.length > ps.length) := by omega
  simp only [hlen, decide_false, Bool.false_and, Option.getD_none, List.length_nil, Nat.zero_sub, List.drop_nil, Nat.sub_zero, List.take_length, e3, List.isEmpty_nil, Bool.not_true, List.drop_length, List.zip_nil_right]
  rfl
theorem lookup_by {ps : List Str} (hps : ps.Nodup) {j : Nat} {p : Str} (hj : ps[j]? = some p) {α : Type} : ∀ {ix : List Nat} {keys : List Str} {vals : List α}, Paired (fun i k => ps[i]? = some k) ix keys → (keys.zip vals).lookup p = (ix.zip vals).lookup j
  | [], [], vals, _ => by simp
  | i :: ix, k :: keys, [], _ => by simp
  | i :: ix, k :: keys, v :: vals, .cons h hs => by
    simp only [List.zip_cons_cons, List.lookup_cons]
    by_cases e : j = i
    · subst e
      rw [hj] at h
      cases h
      simp
    · have e1 : (j == i) = false := by simpa using e
      have e2 : (p == k) = false := by
        simp only [beq_eq_false_iff_ne, ne_eq]
        rintro rfl
        exact e (nodup_ix hps hj h)
      rw [e1, e2]
      exact lookup_by hps hj hs
theorem Paired.app {α β : Type} {R : α → β → Prop} : ∀ {as cs : List α} {bs ds : List β}, Paired R as bs → Paired R cs ds → Paired R (as ++ cs) (bs ++ ds)
  | [], _, [], _, _, h => h
  | _ :: _, _, _ :: _, _, .cons h hs, h' => .cons h (Paired.app hs h')
theorem paired_range {ps : List Str} : ∀ {n : Nat}, n ≤ ps.length → Paired (fun i k => ps[i]? = some k) (List.range n) (ps.take n) := by
  intro n
  induction n with
  | zero => intro _; exact .nil
  | succ n ih =>
    intro h
    have hn : n < ps.length := by omega
    rw [List.range_succ, List.take_succ, List.getElem?_eq_getElem hn]
    exact Paired.app (ih (by omega)) (.cons (List.getElem?_eq_getElem hn) .nil)
theorem idxOf?_at {ps : List Str} {x : Str} {i : Nat} (h : ps.idxOf? x = some i) : ps[i]? = some x := by
  unfold List.idxOf? at h
  rw [List.findIdx?_eq_some_iff_getElem] at h
  obtain ⟨h1, h2, _⟩ := h
  rw [List.getElem?_eq_getElem h1]
  simpa using h2
theorem paired_kws {ps : List Str} : ∀ {kws : List Keyword}, kwPlain kws = true → (∀ j ∈ (kws.map fun k => (k.arg.bind fun x => ps.idxOf? x).getD 1000), j < 1000) → Paired (fun i k => ps[i]? = some k) (kws.map fun k => (k.arg.bind fun x => ps.idxOf? x).getD 1000) (kws.filterMap (·.arg))
  | [], _, _ => .nil
  | ⟨nm, e, kp⟩ :: kws, h, hj => by
    simp only [kwPlain, Bool.and_eq_true] at h
    cases nm with
    | none => exact absurd h.1 (by simp)
    | some x =>
      have h0 := hj ((ps.idxOf? x).getD 1000) (by simp)
      cases e1 : ps.idxOf? x with
      | none => rw [e1] at h0; exact absurd h0 (by decide)
      | some i =>
        simp only [List.map_cons, Option.bind_some, e1, Option.getD_some, List.filterMap_cons]
        exact .cons (idxOf?_at e1) (paired_kws h.2 fun j hj' => hj j (by simp only [List.map_cons, List.mem_cons]; exact .inr hj'))
theorem Paired.lenE {α β : Type} {R : α → β → Prop} : ∀ {as : List α} {bs : List β}, Paired R as bs → as.length = bs.length
  | [], [], _ => rfl
  | _ :: _, _ :: _, .cons _ hs => by simp [Paired.lenE hs]
theorem Paired.mem_right {α β : Type} {R : α → β → Prop} : ∀ {as : List α} {bs : List β}, Paired R as bs → ∀ b ∈ bs, ∃ a ∈ as, R a b
  | [], [], _, b, h => by cases h
  | _ :: _, _ :: _, .cons h hs, b, hb => by
    rcases List.mem_cons.mp hb with rfl | hb
    · exact ⟨_, List.mem_cons_self, h⟩
    · obtain ⟨a, ha, r⟩ := Paired.mem_right hs b hb
      exact ⟨a, List.mem_cons_of_mem _ ha, r⟩
theorem Paired.mem_left {α β : Type} {R : α → β → Prop} : ∀ {as : List α} {bs : List β}, Paired R as bs → ∀ a ∈ as, ∃ b ∈ bs, R a b
  | [], [], _, b, h => by cases h
  | _ :: _, _ :: _, .cons h hs, b, hb => by
    rcases List.mem_cons.mp hb with rfl | hb
    · exact ⟨_, List.mem_cons_self, h⟩
    · obtain ⟨a, ha, r⟩ := Paired.mem_left hs b hb
      exact ⟨a, List.mem_cons_of_mem _ ha, r⟩
theorem paired_nodup {ps : List Str} : ∀ {ix : List Nat} {keys : List Str}, Paired (fun i k => ps[i]? = some k) ix keys → ps.Nodup → ix.Nodup → keys.Nodup
  | [], [], _, _, _ => .nil
  | i :: ix, k :: keys, .cons h hs, hp, hi => by
    rw [List.nodup_cons] at hi ⊢
    refine ⟨fun hm => ?_, paired_nodup hs hp hi.2⟩
    obtain ⟨a, ha, r⟩ := Paired.mem_right hs k hm
    have := nodup_ix hp h r
    subst this
    exact hi.1 ha
/-- the values by parameters -/
def byIxU (np : Nat) (ix : List Nat) (us : List Value) : List Value := (List.range np).map fun j => ((ix.zip us).lookup j).getD .none
theorem lookup_rel {j : Nat} : ∀ {ix : List Nat} {vs : List V} {us : List Value}, Vals vs us → RelV (((ix.zip vs).lookup j).getD .non) (((ix.zip us).lookup j).getD .none)
  | [], _, _, _ => by simp [L2.RelV]
  | i :: ix, _, _, .nil => by simp [L2.RelV]
  | i :: ix, _, _, .cons h hs => by
    simp only [List.zip_cons_cons, List.lookup_cons]
    by_cases e : j = i
    · subst e; simpa using h
    · have e1 : (j == i) = false := by simpa using e
      rw [e1]
      exact lookup_rel hs
theorem byIx_rel {np : Nat} {ix : List Nat} {vs : List V} {us : List Value} (h : Vals vs us) : Vals (byIx np ix vs) (byIxU np ix us) := by
  unfold byIx byIxU
  induction List.range np with
  | nil => exact .nil
  | cons j js ih => exact .cons (lookup_rel h) ih
theorem zip_app {α β : Type} : ∀ {as cs : List α} {bs ds : List β}, as.length = bs.length → (as ++ cs).zip (bs ++ ds) = as.zip bs ++ cs.zip ds
  | [], _, [], _, _ => rfl
  | [], _, _ :: _, _, h => by simp at h
  | _ :: _, _, [], _, h => by simp at h
  | a :: as, cs, b :: bs, ds, h => by simp [zip_app (as := as) (bs := bs) (cs := cs) (ds := ds) (by simpa using h)]
theorem nodup_le : ∀ {np : Nat} {ix : List Nat}, ix.Nodup → (∀ j ∈ ix, j < np) → ix.length ≤ np := by
  intro np
  induction np with
  | zero => intro ix _ h; cases ix with
    | nil => simp
    | cons a as => exact absurd (h a List.mem_cons_self) (by omega)
  | succ n ih =>
    intro ix hnd h
    have e := ih (ix := ix.erase n) (hnd.erase n) fun j hj => by
      have h1 := h j (List.mem_of_mem_erase hj)
      have h2 : j ≠ n := fun e => by subst e; exact (List.Nodup.mem_erase_iff hnd).mp hj |>.1 rfl
      omega
    have := List.length_erase (a := n) (l := ix)
    split at this <;> omega
theorem mem_of_full {np : Nat} {ix : List Nat} (hnd : ix.Nodup) (hl : ix.length = np) (hlt : ∀ j ∈ ix, j < np) {j : Nat} (hj : j < np) : j ∈ ix := by
  by_cases h : j ∈ ix
  · exact h
  · have := nodup_le (np := np) (ix := j :: ix) (List.nodup_cons.mpr ⟨h, hnd⟩) fun k hk => by
      rcases List.mem_cons.mp hk with rfl | hk
      · exact hj
      · exact hlt k hk
    simp at this
    omega
theorem kbn_plain {K : PySem.W.Frag} {fd : FuncData} {ps : List Str} {np n : Nat} {kws : List Keyword} {ix : List Nat} (h1 : fd.params.posonlyargs = []) (h2 : fd.params.args.map (·.arg) = ps) (h3 : fd.params.vararg = none) (h4 : fd.params.kwonlyargs = []) (h5 : fd.params.kwarg = none) (hd : fd.defaults = .none)
    (hps : ps.Nodup) (hnp : ps.length = np) (hbig : np ≤ 1000) (hkw : kwPlain kws = true) (hix : ix = List.range n ++ kws.map fun k => (k.arg.bind fun x => ps.idxOf? x).getD 1000) (hl : ix.length = np) (hnd : ix.Nodup) (hlt : ∀ j ∈ ix, j < np) :
    ∃ gg, KBn K fd ps n (kws.filterMap (·.arg)) gg (fun vs zs => byIx np ix (vs ++ zs)) := by
  have hn : n ≤ ps.length := by
    rw [hix] at hl
    simp at hl
    omega
  have pr : Paired (fun i k => ps[i]? = some k) ix (ps.take n ++ kws.filterMap (·.arg)) := by
    rw [hix]
    exact Paired.app (paired_range hn) (paired_kws hkw fun j hj => Nat.lt_of_lt_of_le (hlt j (by rw [hix]; exact List.mem_append_right _ hj)) hbig)
  refine ⟨fun us ws => byIxU np ix (us ++ ws), fun s us ws hK l1 l2 => ?_, fun r1 r2 => byIx_rel (r1.append r2)⟩
  have hl2 : n + (kws.filterMap (·.arg)).length = ps.length := by
    have := Paired.lenE pr
    rw [hl, List.length_append, List.length_take, Nat.min_eq_left hn] at this
    omega
  have knd := paired_nodup pr hps hnd
  have full : ∀ p ∈ ps, p ∈ ps.take n ++ kws.filterMap (·.arg) := by
    intro p hp
    obtain ⟨j, hj⟩ := List.mem_iff_getElem?.mp hp
    have hj2 : j < np := by rw [← hnp]; exact (List.getElem?_eq_some_iff.mp hj).1
    have : j ∈ ix := by
      have hs : ix ⊆ List.range np := fun i hi => List.mem_range.mpr (hlt i hi)
      exact mem_of_full hnd hl hlt hj2
    obtain ⟨b, hb, r⟩ := Paired.mem_left pr j this
    rw [hj] at r
    cases r
    exact hb
  refine BindsTo.of_eq ?_
  rw [bind_plain h1 h2 h3 h4 h5 hd us ws _ l2.symm (by rw [l1]; exact hl2) (fun k hk => ?_) (by rw [l1]; exact knd) (fun p hp => by rw [l1]; exact List.mem_append.mp (full p hp))]
  · congr 1
    have e0 : ps.zip us ++ (kws.filterMap (·.arg)).zip ws = (ps.take n ++ kws.filterMap (·.arg)).zip (us ++ ws) := by
      rw [zip_app (by simp [l1]; omega)]
      congr 1
      rw [← l1]
      have : ∀ (as : List Str) (bs : List Value), as.zip bs = (as.take bs.length).zip bs := by
        intro as
        induction as with
        | nil => simp
        | cons a as ih => intro bs; cases bs with
          | nil => simp
          | cons b bs => simp only [List.length_cons, List.take_succ_cons, List.zip_cons_cons]; rw [← ih]
      exact this ps us
    rw [e0]
    have lens : (us ++ ws).length = np := by simp [l1, l2, ← hnp, ← hl2]
    have key : ∀ (j : Nat) (p : Str), ps[j]? = some p → ((ps.take n ++ kws.filterMap (·.arg)).zip (us ++ ws)).lookup p = (ix.zip (us ++ ws)).lookup j := fun j p hj => lookup_by hps hj pr
    have tot : ∀ j, j < np → ∃ u, (ix.zip (us ++ ws)).lookup j = some u := by
      intro j hj
      have : j ∈ ix := mem_of_full hnd hl hlt hj
      cases e : (ix.zip (us ++ ws)).lookup j with
      | some u => exact ⟨u, rfl⟩
      | none =>
        have := lookup_none_iff.mp e
        rw [zip_fst, lens, ← hl, List.take_length] at this
        exact absurd (by assumption) this
    -- both lists, place by place
    have go : ∀ (m : Nat), m ≤ np → (ps.drop (np - m)).filterMap (fun p => (((ps.take n ++ kws.filterMap (·.arg)).zip (us ++ ws)).lookup p).map (p, ·)) = (ps.drop (np - m)).zip (((List.range np).drop (np - m)).map fun j => ((ix.zip (us ++ ws)).lookup j).getD .none) := by
      intro m
      induction m with
      | zero => intro _; simp [← hnp]
      | succ m ih =>
        intro hm
        have hj : np - (m + 1) < ps.length := by omega
        have ed : np - (m + 1) + 1 = np - m := by omega
        rw [List.drop_eq_getElem_cons hj, List.drop_eq_getElem_cons (l := List.range np) (by simp; omega), ed]
        obtain ⟨u, hu⟩ := tot (np - (m + 1)) (by omega)
        have hk := key (np - (m + 1)) _ (List.getElem?_eq_getElem hj)
        rw [hu] at hk
        simp only [List.filterMap_cons, hk, Option.map_some, List.map_cons, List.getElem_range, hu, Option.getD_some, List.zip_cons_cons]
        rw [ih (by omega)]
    have := go np (Nat.le_refl _)
    simp only [Nat.sub_self, List.drop_zero] at this
    exact this
  · obtain ⟨a, ha, r⟩ := Paired.mem_right pr k (List.mem_append_right _ hk)
    exact List.mem_of_getElem? r
end OI
set_option maxRecDepth 100000
set_option maxHeartbeats 4000000
/-! OI26: statements: what they touch, types, texts. -/
namespace OI
open PySem PySem.Spec PyProof.Rows L2
/-- where a statement stands: the loop's head, what is forgotten at its turns; the changed parameter, so deep; how deep the answer is its own -/
structure Lp where
  lp : Option (List Gt) := none
  lw : List (Nat × Gt) := []
  io : Option Nat := none
  dio : Nat := 0
  dr : Nat := 0
def wk1 (p : Nat × Gt) (Γ : List Gt) : Option (List Gt) :=
  if p.1 < Γ.length then (match gat Γ p.1, p.2 with
    | _, .dead => some (setT p.1 .dead Γ)
    | .t .cl, .t τ => some (setT p.1 (.t τ) Γ)
    | .t (.d n), .t (.d m) => if n = m then some Γ else if m = 0 then some (setT p.1 (.t (.d 0)) Γ) else none
    | _, _ => none) else none
def wk : List (Nat × Gt) → List Gt → Option (List Gt)
  | [], Γ => some Γ
  | p :: ws, Γ => (wk1 p Γ).bind (wk ws)
mutual
def tchS : S → List Nat
  | .expr e => tchE e
  | .asg t e => t.slots ++ tchE e
  | .par is es => is ++ tchEs es
  | .ret e => tchE e
  | .als y _ _ => [y]
  | .set p _ e => p.x :: tchE e
  | .aug i _ e => i :: tchE e
  | .augI p _ _ e => p.x :: tchE e
  | .del p _ => [p.x]
  | .ite ws c a b => ws.map (·.1) ++ (tchE c ++ (tchSs a ++ tchSs b))
  | .whl ws c b => ws.map (·.1) ++ (tchE c ++ tchSs b)
  | .for_ ws t it b => ws.map (·.1) ++ (tchE it ++ (t.slots ++ tchSs b))
  | .raise _ args => tchEs args
  | .try_ ws b hs => ws.map (·.1) ++ (tchSs b ++ tchSs hs)
  | .hnd _ nm h => nm.toList ++ tchSs h
  | _ => []
def tchSs : List S → List Nat
  | [] => []
  | s :: ss => tchS s ++ tchSs ss
end
def tgOk (c : Lp) (Γ : List Gt) (is : List Nat) : Bool := distinct is && (is.all fun i => decide (i < Γ.length) && decide (c.io ≠ some i))
def parT : List Nat → List TR → List Gt → List Gt
  | i :: is, r :: rs, Γ => parT is rs (setT i (.t r.1) Γ)
  | _, _, Γ => Γ
def ioOk (c : Lp) (Γ : List Gt) : Bool := match c.io with
  | none => true
  | some j => decide (gat Γ j = .t (.d c.dio))
def retOk (c : Lp) (r : TR) : Bool := r.2.isNone && (match r.1 with
  | .cl => true
  | .d n => decide (c.dr ≤ n))
/-- what is walked: the items' type, the slots that it is borrowed of -/
def typI (T : List FnA) (it : E) (Γ : List Gt) : Option (Tp × List Nat × List Gt) := match it with
  | .itr _ args => itrI (typEs T args Γ)
  | it => plnI (typE T it Γ)
def deadL : List Nat → List Gt → List Gt
  | [], Γ => Γ
  | i :: is, Γ => deadL is (setT i .dead Γ)
def joinR (ws : List (Nat × Gt)) : Option (List Gt) → Option (List Gt) → Option (Option (List Gt))
  | none, none => some none
  | some a, none => (wk ws a).map some
  | none, some b => (wk ws b).map some
  | some a, some b => match wk ws a, wk ws b with
    | some a', some b' => if a' = b' then some (some a') else none
    | _, _ => none
def backTo' (ws : List (Nat × Gt)) (Γh : List Gt) : Option (List Gt) → Bool
  | none => true
  | some Γ => decide (wk ws Γ = some Γh)
def hndT : Option Nat → List Gt → List Gt
  | some i, Γ => setT i (.t (.d 0)) Γ
  | none, Γ => Γ
mutual
def typS (T : List FnA) (c : Lp) : S → List Gt → Option (Option (List Gt))
  | .expr e, Γ => (typE T e Γ).map fun r => some r.2
  | .asg t e, Γ => match typE T e Γ with
    | some (r, Γ') => if r.2.isNone && tgOk c Γ' t.slots then some (some (typT t r.1 Γ')) else none
    | none => none
  | .par is es, Γ => match typEs T es Γ with
    | some (rs, Γ') => if rs.all (·.2.isNone) && decide (is.length = rs.length) && tgOk c Γ' is then some (some (parT is rs Γ')) else none
    | none => none
  | .pass, Γ => some (some Γ)
  | .brk, Γ => match c.lp with
    | some Γh => if wk c.lw Γ = some Γh then some none else none
    | none => none
  | .cnt, Γ => match c.lp with
    | some Γh => if wk c.lw Γ = some Γh then some none else none
    | none => none
  | .ret e, Γ => match typE T e Γ with
    | some (r, Γ') => if retOk c r && ioOk c Γ' then some none else none
    | none => none
  | .retN, Γ => if ioOk c Γ then some none else none
  | .als y x ks, Γ => match gat Γ x with
    | .t (.d n) => if decide (ks.length < n) && decide (y ≠ x) && tgOk c Γ [y] then some (some (setT y (.al x ks) Γ)) else none
    | _ => none
  | .set p ks e, Γ => match typE T e Γ with
    | some (r, Γ') => (match depthAt Γ' p with
      | some n => if decide (0 < ks.length) && decide (ks.length ≤ n) && useAt (n - ks.length) r && (tchEs ks).isEmpty && typAll T ks Γ' then some (some (aliveA p (ks.length - 1) Γ')) else none
      | none => none)
    | none => none
  | .aug i _ e, Γ => match typE T e Γ, gat Γ i with
    | some (_, Γ'), .t _ => if !(tchE e).contains i && tgOk c Γ' [i] then some (some (setT i (.t .cl) Γ')) else none
    | _, _ => none
  | .augI p ks _ e, Γ => match typE T e Γ with
    | some (_, Γ') => (match depthAt Γ' p with
      | some n => if decide (0 < ks.length) && decide (ks.length ≤ n) && decide (depthAt Γ p = some n) && !(tchE e).contains p.x && (tchEs ks).isEmpty && typAll T ks Γ then some (some (aliveA p (ks.length - 1) Γ')) else none
      | none => none)
    | none => none
  | .del p ks, Γ => match depthAt Γ p with
    | some n => if decide (0 < ks.length) && decide (ks.length ≤ n) && (tchEs ks).isEmpty && typAll T ks Γ then some (some (aliveA p (ks.length - 1) Γ)) else none
    | none => none
  | .ite ws e a b, Γ => match typE T e Γ with
    | some (_, Γ0) => (match typSs T c a Γ0, typSs T c b Γ0 with
      | some ra, some rb => joinR ws ra rb
      | _, _ => none)
    | none => none
  | .whl ws e b, Γ => match wk ws Γ with
    | some Γh => (match typE T e Γh with
      | some (_, Γ1) => if Γ1 = Γh then (match typSs T { c with lp := some Γh, lw := ws } b Γh with
        | some r => if backTo' ws Γh r then some (some Γh) else none
        | none => none) else none
      | none => none)
    | none => none
  | .for_ ws t it b, Γ => match typI T it Γ with
    | some (τ, ss, Γ0) => (match wk ws Γ0 with
      | some Γh => if tgOk c Γh t.slots && ss.all (fun x => !(ws.map (·.1) ++ (t.slots ++ tchSs b)).contains x) then (match typSs T { c with lp := some Γh, lw := ws } b (typT t τ Γh) with
        | some r => if backTo' ws Γh r then some (some Γh) else none
        | none => none) else none
      | none => none)
    | none => none
  | .raise _ args, Γ => match typEs T args Γ with
    | some _ => some none
    | none => none
  | .try_ ws b hs, Γ => match typSs T c b Γ, typHs T c hs (deadL (tchSs b) Γ) with
    | some rb, some rh => joinR ws rb rh
    | _, _ => none
  | .hnd _ _ _, _ => none
def typSs (T : List FnA) (c : Lp) : List S → List Gt → Option (Option (List Gt))
  | [], Γ => some (some Γ)
  | s :: ss, Γ => match typS T c s Γ with
    | some (some Γ') => typSs T c ss Γ'
    | some none => some none
    | none => none
/-- the clauses of a try; all that end end alike -/
def typHs (T : List FnA) (c : Lp) : List S → List Gt → Option (Option (List Gt))
  | [], _ => some none
  | .hnd _ nm h :: hs, Γ => match typSs T c h (hndT nm Γ), typHs T c hs Γ with
    | some none, some r => some r
    | some r, some none => some r
    | some (some a), some (some b) => if a = b then some (some a) else none
    | _, _ => none
  | _ :: _, _ => none
end
/-! ### the text -/
def notTup : Expr → Bool
  | .Tuple _ _ _ => false
  | _ => true
def meKs : List Kc → List Expr → Bool
  | [], [] => true
  | .i n :: ks, .Constant (.int m) _ _ :: qs => decide (n = m) && meKs ks qs
  | .s x :: ks, .Constant (.str z) _ _ :: qs => decide (Str.ofString x = z) && meKs ks qs
  | _, _ => false
def namesOf : List Expr → List Str
  | .Name x _ :: qs => x :: namesOf qs
  | _ => []
/-- they are stored swapped -/
def swapNs (sc : Scope) (ts vs : List Expr) : Bool :=
  let line := (ts.head?.map (·.pos.line)).getD 0
  decide (vs.length = ts.length) && (ts.all fun t => match t with | .Name x p => decide (sc.names.lookup x = some .local) && (p.line == line) | _ => false) && distinctS (namesOf ts) && !vs.all (foldedForSure 8) && !vs.all (constantsAlone 8) && vs.all plainX
where distinctS : List Str → Bool
  | [] => true
  | x :: xs => !xs.contains x && distinctS xs
/-- they are not -/
def plainNs (sc : Scope) (ts vs : List Expr) : Bool := decide (vs.length = ts.length) && decide (vs.length ≤ 1000) && vs.all plainX && ((ts.length != 2 && ts.length != 3) || vs.all (foldedForSure 8) || ts.any fun t => match t with | .Name x _ => decide (sc.names.lookup x ≠ some .local) | _ => true)
/-- the root and the keys of a place that is read or stored -/
def meP (T : List FnA) (N : List Str) (sc : Scope) (p : Pr) (ks : List E) (q : Expr) : Bool := match unpath ks.length q with
  | some (.Name x _, ls) => nmB N sc (p.y.getD p.x) x && ls.all notSlice && meEs T N sc ks ls
  | _ => false
/-- a comprehension that is given to the name x on its line -/
def lcOk (x : Str) (p : Pos) : Expr → Bool
  | .ListComp _ _ sc2 p2 => p.line == p2.line && !(sc2.names.any fun z => z.1 == x && (z.2 == .local || z.2 == .cell))
  | _ => false
mutual
def meS (T : List FnA) (N : List Str) (sc : Scope) : S → Stmt → Bool
  | .expr e, q0 => match q0 with
    | .Expr q _ => notComp q && meE T N sc e q
    | _ => false
  | .asg t e, q0 => match q0 with
    | .Assign [tg] q spos => meT N sc t tg && meE T N sc e q && (match tg with
      | .Name x p => notComp q || (decide (sc.names.lookup x = some .local) && lcOk x p q)
      | .Tuple _ _ _ => notComp q && notTup q
      | _ => false)
    | _ => false
  | .par is es, q0 => match q0 with
    | .Assign [.Tuple ts _ _] (.Tuple vs _ _) _ => decide (is.length = ts.length) && meTs N sc (is.map .nm) ts && meEs T N sc es vs && (swapNs sc ts vs && (ts.length == 2 || ts.length == 3) || plainNs sc ts vs)
    | _ => false
  | .pass, q0 => match q0 with
    | .Pass _ => true
    | _ => false
  | .brk, q0 => match q0 with
    | .Break _ => true
    | _ => false
  | .cnt, q0 => match q0 with
    | .Continue _ => true
    | _ => false
  | .ret e, q0 => match q0 with
    | .Return (some q) _ => meE T N sc e q
    | _ => false
  | .retN, q0 => match q0 with
    | .Return none _ => true
    | _ => false
  | .als y x ks, q0 => match q0 with
    | .Assign [.Name n _] q _ => decide (N[y]? = some n) && locB sc n && notComp q && (match unpath ks.length q with
      | some (.Name z _, ls) => nmB N sc x z && ls.all notSlice && meKs ks ls
      | _ => false)
    | _ => false
  | .set p ks e, q0 => match q0 with
    | .Assign [.Subscript o i pos] q _ => notComp q && meE T N sc e q && meP T N sc p ks (.Subscript o i pos)
    | _ => false
  | .aug i op e, q0 => match q0 with
    | .AugAssign (.Name x _) op' q _ => decide (op = op') && decide (N[i]? = some x) && locB sc x && plainName x && meE T N sc e q
    | _ => false
  | .augI _ _ _ _, _ => false
  | .del _ _, _ => false
  | .ite _ c a b, q0 => match q0 with
    | .If q as bs _ => meE T N sc c q && meSs T N sc a as && meSs T N sc b bs
    | _ => false
  | .whl _ c b, q0 => match q0 with
    | .While q bs [] _ => meE T N sc c q && meSs T N sc b bs
    | _ => false
  | .for_ _ t it b, q0 => match q0 with
    | .For tg q bs [] _ => plainX q && itTg it tg && meT N sc t tg && meE T N sc it q && meSs T N sc b bs
    | _ => false
  | .raise _ _, _ => false
  | .try_ _ _ _, _ => false
  | .hnd _ _ _, _ => false
def meSs (T : List FnA) (N : List Str) (sc : Scope) : List S → List Stmt → Bool
  | [], [] => true
  | s :: ss, q :: qs => meS T N sc s q && meSs T N sc ss qs
  | _, _ => false
end
end OI
set_option maxRecDepth 100000
set_option maxHeartbeats 4000000
/-! OI27: statements keep what the interpreter says: what that means; what is forgotten. -/
namespace OI
open PySem PySem.Spec PyProof.Rows L2
section
variable {T : List FnA} {X : Cx} {K : PySem.W.Frag} {c : Lp} {σ σ' σ2 : St} {S S' S2 : ASt} {M M' : List Nat} {H H' : Hp} {Z : Addr → Prop}
/-- from S at σ to S' at σ': only M's slots -/
structure SGot (K : PySem.W.Frag) (c : Lp) (M : List Nat) (σ : St) (S : ASt) (env' : Env) (Γ' : List Gt) (σ' : St) (S' : ASt) : Prop where
  env : S'.env = env'
  g : S'.G = Γ'
  stp : Stp M S S'
  ok : Ok K σ' S'
  len : σ'.length = σ.length
  sig : ∀ i : Nat, i ∉ M → σ'[i]? = σ[i]?
  fix : ∀ j : Nat, c.io = some j → σ'[j]? = σ[j]?
def XWS (ER : ERel) (W : WX) (σ : St) (M : List Nat) (S : ASt) (x : PV) : Prop := ∀ σ' cls d H', ER x cls d H' → Kp (Wr M S) S.H H' → (∀ a, S.H a ≠ none → H' a ≠ none) → σ'.length = σ.length → (∀ i : Nat, i ∉ M → σ'[i]? = σ[i]?) → W cls d σ' H'
/-- what is wished behind the flow f -/
def FlowW (K : PySem.W.Frag) (c : Lp) (M : List Nat) (σ : St) (S : ASt) (tr : Option (List Gt)) (D : Ends) : Flow → Prop
  | .next env' => ∀ Γ' σ' S', tr = some Γ' → SGot K c M σ S env' Γ' σ' S' → D.nx σ' S'.H
  | .brk env' => ∀ Γh Γ' σ' S', c.lp = some Γh → wk c.lw Γ' = some Γh → SGot K c M σ S env' Γ' σ' S' → D.bk σ' S'.H
  | .cnt env' => ∀ Γh Γ' σ' S', c.lp = some Γh → wk c.lw Γ' = some Γh → SGot K c M σ S env' Γ' σ' S' → D.ct σ' S'.H
  | .ret v env' => ∀ r Γ' σ' S' w F, retOk c r = true → ioOk c Γ' = true → SGot K c M σ S env' Γ' σ' S' → Tmp K S' r.1 none v w F → (∀ a ∈ F, S.H a = none ∨ Wr M S a) → D.rt w S'.H
/-- a def's body, a try's -/
structure GoodS (X : Cx) (T : List FnA) (G : Ctx) (ER : ERel) (W : WX) (k : Nat) : Prop extends Good X T G ER W k where
  fn : ∀ x, X.fn x = true
  po : PassesOwn (model X.prog X.w) X.A X.env X.xe
  stk : X.stack = X.env :: X.outer
  frm : X.env.frame = some X.env.locals
structure SndSO (T : List FnA) (X : Cx) (G : Ctx) (ER : ERel) (W : WX) (c : Lp) (s' : OI.S) (s : Stmt) (σ : St) (S : ASt) (tr : Option (List Gt)) : Prop where
  ok : ∀ f, evalS G s' S.env = .ok f → ∀ D : Ends, FlowW X.K c (tchS s') σ S tr D f → WS X s D σ S.H
  exc : ∀ x, evalS G s' S.env = .exc x → ∀ D : Ends, XWS ER W σ (tchS s') S x → WS X s D σ S.H
def SndS (T : List FnA) (s' : OI.S) : Prop := ∀ (X : Cx) (G : Ctx) (ER : ERel) (W : WX) (k : Nat), GoodS X T G ER W k → ∀ s : Stmt, meS T X.N X.env.scope s' s = true →
  ∀ (c : Lp) (σ : St) (S : ASt) (tr : Option (List Gt)), typS T c s' S.G = some tr → Ok X.K σ S → SndSO T X G ER W c s' s σ S tr
structure SndSsO (T : List FnA) (X : Cx) (G : Ctx) (ER : ERel) (W : WX) (c : Lp) (s' : List OI.S) (s : List Stmt) (σ : St) (S : ASt) (tr : Option (List Gt)) : Prop where
  ok : ∀ f, evalSs G s' S.env = .ok f → ∀ D : Ends, FlowW X.K c (tchSs s') σ S tr D f → WSs X s D σ S.H
  exc : ∀ x, evalSs G s' S.env = .exc x → ∀ D : Ends, XWS ER W σ (tchSs s') S x → WSs X s D σ S.H
def SndSs (T : List FnA) (s' : List OI.S) : Prop := ∀ (X : Cx) (G : Ctx) (ER : ERel) (W : WX) (k : Nat), GoodS X T G ER W k → ∀ s : List Stmt, meSs T X.N X.env.scope s' s = true →
  ∀ (c : Lp) (σ : St) (S : ASt) (tr : Option (List Gt)), typSs T c s' S.G = some tr → Ok X.K σ S → SndSsO T X G ER W c s' s σ S tr
theorem XWS.xw {ER : ERel} {W : WX} {x : PV} (h : XWS ER W σ M S x) : XW ER W σ M S x := fun cls d H' er kp lv => h σ cls d H' er kp lv rfl fun _ _ => rfl
theorem XWS.step {ER : ERel} {W : WX} {x : PV} (st : Stp M S S') (hl : σ'.length = σ.length) (hσ : ∀ i : Nat, i ∉ M → σ'[i]? = σ[i]?) (hs : ∀ i ∈ M', i ∈ M) (h : XWS ER W σ M S x) : XWS ER W σ' M' S' x := fun σ2 cls d H' er kp lv l2 s2 =>
  h σ2 cls d H' er (Kp.trans st fun a o e p => kp a o e (p.imp id fun n ⟨i, m, q⟩ => n ⟨i, hs i m, q⟩)) (fun a z => lv a (st.live a z)) (l2.trans hl) fun i hi => (s2 i fun m => hi (hs i m)).trans (hσ i hi)
theorem XWS.mono {ER : ERel} {W : WX} {x : PV} (hs : ∀ i ∈ M', i ∈ M) (h : XWS ER W σ M S x) : XWS ER W σ M' S x := h.step .refl rfl (fun _ _ => rfl) hs
/-- behind an expression: the steps with the slots as they were -/
theorem SGot.refl (o : Ok K σ S) : SGot K c M σ S S.env S.G σ S := ⟨rfl, rfl, .refl, o, rfl, fun _ _ => rfl, fun _ _ => rfl⟩
theorem SGot.stepd {env' : OI.Env} {Γ' : List Gt} (g : Stepd K σ M S env' Γ' S') : SGot K c M σ S env' Γ' σ S' := ⟨g.env, g.g, g.stp, g.ok, rfl, fun _ _ => rfl, fun _ _ => rfl⟩
theorem SGot.trans {e1 e2 : OI.Env} {Γ1 Γ2 : List Gt} (g : SGot K c M σ S e1 Γ1 σ' S') (h : SGot K c M σ' S' e2 Γ2 σ2 S2) : SGot K c M σ S e2 Γ2 σ2 S2 :=
  ⟨h.env, h.g, g.stp.trans h.stp, h.ok, h.len.trans g.len, fun i n => (h.sig i n).trans (g.sig i n), fun j e => (h.fix j e).trans (g.fix j e)⟩
theorem SGot.mono {e1 : OI.Env} {Γ1 : List Gt} (g : SGot K c M' σ S e1 Γ1 σ' S') (hs : ∀ i ∈ M', i ∈ M) : SGot K c M σ S e1 Γ1 σ' S' :=
  ⟨g.env, g.g, g.stp.mono hs, g.ok, g.len, fun i n => g.sig i fun m => n (hs i m), g.fix⟩
/-- the flow's wish from a state further on -/
theorem FlowW.step {e1 : OI.Env} {Γ1 : List Gt} {tr : Option (List Gt)} {D : Ends} {f : Flow} (g : SGot K c M σ S e1 Γ1 σ' S') (hs : ∀ i ∈ M', i ∈ M) (h : FlowW K c M σ S tr D f) : FlowW K c M' σ' S' tr D f := by
  cases f with
  | next env' => exact fun Γ' σ2 S2 e g2 => h Γ' σ2 S2 e (g.trans (g2.mono hs))
  | brk env' => exact fun Γh Γ' σ2 S2 e1 e2 g2 => h Γh Γ' σ2 S2 e1 e2 (g.trans (g2.mono hs))
  | cnt env' => exact fun Γh Γ' σ2 S2 e1 e2 g2 => h Γh Γ' σ2 S2 e1 e2 (g.trans (g2.mono hs))
  | ret v env' =>
    refine fun r Γ' σ2 S2 w F e1 e2 g2 tm hn => h r Γ' σ2 S2 w F e1 e2 (g.trans (g2.mono hs)) tm fun a ha => ?_
    rcases hn a ha with z | ⟨i, m, z⟩
    · refine .inl ?_
      cases q : S.H a with
      | none => rfl
      | some u => exact absurd z (g.stp.live a (by simp [q]))
    · rcases g.stp.fnew i a z with z | z | z
      · exact .inr ⟨i, hs i m, z⟩
      · exact .inl z
      · exact .inr z
/-! ### what is forgotten -/
theorem wk1_ok {p : Nat × Gt} {Γ' : List Gt} (o : Ok K σ S) (h : wk1 p S.G = some Γ') : ∃ S', S'.env = S.env ∧ S'.H = S.H ∧ S'.G = Γ' ∧ Ok K σ S' ∧ Stp [p.1] S S' := by
  unfold wk1 at h
  split at h
  · rename_i hi
    -- a slot's thing forgotten
    have dead : ∃ S', S'.env = S.env ∧ S'.H = S.H ∧ S'.G = setT p.1 .dead S.G ∧ Ok K σ S' ∧ Stp [p.1] S S' :=
      ⟨S.put p.1 S.env .dead [] S.Z, rfl, rfl, rfl, o.put hi o.len (fun _ _ => rfl) (fun _ _ => rfl) (fun _ _ h => nomatch h) (fun _ _ h => nomatch h) (fun _ => rfl) (fun _ z => z) (fun _ z => .inl z) (fun _ h => nomatch h),
        .put (by simp) (fun _ _ => rfl) (fun _ z => z) (fun _ z => .inl z) fun _ h => nomatch h⟩
    split at h
    · cases h; exact dead
    · rename_i τ hg hp
      cases h
      refine ⟨S.put p.1 S.env (.t τ) [] S.Z, rfl, rfl, rfl, o.put hi o.len (fun _ _ => rfl) (fun _ _ => rfl) (fun _ _ h => nomatch h) (fun τ' v e1 e2 => ?_) (fun _ => rfl) (fun _ z => z) (fun _ z => .inl z) (fun _ h => nomatch h),
        .put (by simp) (fun _ _ => rfl) (fun _ z => z) (fun _ z => .inl z) fun _ h => nomatch h⟩
      cases e1
      obtain ⟨w, e3, rp⟩ := o.slot _ _ _ (gat_some hg) e2
      refine ⟨w, e3, ?_⟩
      have q := rp.cl0.2
      cases τ with
      | cl => exact ⟨rfl, rp.2.1, q _ _⟩
      | d n => exact q _ _
    · rename_i n m hg hp
      split at h
      · cases h; exact ⟨S, rfl, rfl, rfl, o, .refl⟩
      · split at h
        · cases h
          exact ⟨S.put p.1 S.env (.t (.d 0)) [] fun a => S.Z a ∨ a ∈ S.Fs p.1, rfl, rfl, rfl, o.frzSlot hg, Stp.frzSlot (by simp)⟩
        · cases h
    · cases h
  · cases h
theorem wk_ok {ws : List (Nat × Gt)} : ∀ {S : ASt} {Γ' : List Gt}, Ok K σ S → wk ws S.G = some Γ' → ∃ S', S'.env = S.env ∧ S'.H = S.H ∧ S'.G = Γ' ∧ Ok K σ S' ∧ Stp (ws.map (·.1)) S S' := by
  induction ws with
  | nil =>
    intro S Γ' o h
    cases h
    exact ⟨S, rfl, rfl, rfl, o, .refl⟩
  | cons p ws ih =>
    intro S Γ' o h
    simp only [wk, Option.bind_eq_some_iff] at h
    obtain ⟨Γ1, h1, h2⟩ := h
    obtain ⟨S1, a1, a2, a3, a4, a5⟩ := wk1_ok o h1
    obtain ⟨S2, b1, b2, b3, b4, b5⟩ := ih a4 (by rw [a3]; exact h2)
    refine ⟨S2, b1.trans a1, b2.trans a2, b3, b4, (a5.mono fun i hi => ?_).trans (b5.mono fun i hi => ?_)⟩
    · simp at hi; subst hi; simp
    · simp only [List.map_cons, List.mem_cons]; exact .inr hi
/-- .. as a step -/
theorem SGot.wk {ws : List (Nat × Gt)} {Γ' : List Gt} {e1 : OI.Env} {Γ1 : List Gt} (g : SGot K c M σ S e1 Γ1 σ' S') (h : wk ws Γ1 = some Γ') (hs : ∀ i ∈ ws.map (·.1), i ∈ M) : ∃ S2, S2.H = S'.H ∧ SGot K c M σ S e1 Γ' σ' S2 := by
  obtain ⟨S2, a1, a2, a3, a4, a5⟩ := wk_ok g.ok (by rw [g.g]; exact h)
  exact ⟨S2, a2, a1.trans g.env, a3, g.stp.trans (a5.mono hs), a4, g.len, g.sig, g.fix⟩
end
end OI
set_option maxRecDepth 100000
set_option maxHeartbeats 4000000
/-! OI28: stores to names. -/
namespace OI
open PySem PySem.Spec PyProof.Rows L2
section
variable {T : List FnA} {X : Cx} {K : PySem.W.Frag} {c : Lp} {σ σ' σ2 σ0 : St} {S S' S2 S0 : ASt} {M M' : List Nat} {H H' : Hp} {Z : Addr → Prop}
/-- a name's new value -/
theorem SGot.put {e1 : OI.Env} {Γ1 : List Gt} {i : Nat} {τ : Tp} {v : PV} {w : V} {F : List Addr} (g : SGot K c M σ0 S0 e1 Γ1 σ S) (hiM : i ∈ M) (hio : c.io ≠ some i) (hi : i < S.G.length) (t : Tmp K S τ none v w F) (new : ∀ a ∈ F, S0.H a = none ∨ Wr M S0 a) :
    ∃ S', S'.H = S.H ∧ S'.Z = S.Z ∧ (∀ j a, a ∈ S'.Fs j → a ∈ S.Fs j ∨ a ∈ F) ∧ SGot K c M σ0 S0 (setV S.env i (some v)) (setT i (.t τ) S.G) (σ.set i (some w)) S' := by
  have key : ∀ F' : List Addr, (∀ a ∈ F', a ∈ F) → (i < S.env.length → F' = F) → (¬ i < S.env.length → F' = []) → ∃ S', S'.H = S.H ∧ S'.Z = S.Z ∧ (∀ j a, a ∈ S'.Fs j → a ∈ S.Fs j ∨ a ∈ F) ∧ SGot K c M σ0 S0 (setV S.env i (some v)) (setT i (.t τ) S.G) (σ.set i (some w)) S' := by
    intro F' hF' h1 h2
    have hl : (setV S.env i (some v)).length = (σ.set i (some w)).length := by rw [setV_len, List.length_set]; exact g.ok.len
    have ok := g.ok.put (σ' := σ.set i (some w)) (i := i) (env' := setV S.env i (some v)) (g := .t τ) (F := F') (Z' := S.Z) hi hl (fun j hj => by rw [setV_at, if_neg hj]) (fun j hj => by rw [List.getElem?_set_ne (Ne.symm hj)]) (fun _ _ h => nomatch h)
      (fun τ' v' e1 e2 => by
        cases e1
        have hlt : i < S.env.length := by
          have := (List.getElem?_eq_some_iff.mp e2).1
          rw [setV_len] at this; exact this
        rw [h1 hlt]
        rw [setV_at, if_pos rfl] at e2
        have hσ : i < σ.length := by rw [← g.ok.len]; exact hlt
        refine ⟨w, by rw [List.getElem?_set_self hσ], ?_⟩
        have ev : v' = v := by
          rw [List.getElem?_eq_getElem hlt] at e2
          simpa using e2.symm
        rw [ev]
        exact t.rep)
      (fun h => by
        rcases h with h | h
        · exact absurd rfl (h τ)
        · refine h2 fun hlt => h v ?_
          rw [setV_at, if_pos rfl, List.getElem?_eq_getElem hlt]; rfl)
      (fun _ z => z) (fun _ z => .inl z) (fun a ha => ⟨t.nz a (hF' a ha), fun j _ => t.own rfl j a (hF' a ha), t.rep.trk a (hF' a ha)⟩)
    refine ⟨S.put i (setV S.env i (some v)) (.t τ) F' S.Z, rfl, rfl, fun j a ha => ?_, rfl, rfl, ?_, ok, by rw [List.length_set]; exact g.len, fun j hj => ?_, fun j hj => ?_⟩
    · have ha : a ∈ (if j = i then F' else S.Fs j) := ha
      by_cases e : j = i
      · rw [if_pos e] at ha; exact .inr (hF' a ha)
      · rw [if_neg e] at ha; exact .inl ha
    · refine ⟨fun j hj => ?_, fun j hj => ?_, g.stp.keep, g.stp.z, g.stp.znew, fun j a ha => ?_, g.stp.live⟩
      · show (setV S.env i (some v))[j]? = _
        rw [setV_at, if_neg fun e : j = i => hj (e ▸ hiM)]
        exact g.stp.env j hj
      · show (if j = i then F' else S.Fs j) = _
        rw [if_neg fun e : j = i => hj (e ▸ hiM)]
        exact g.stp.fs j hj
      · have ha : a ∈ (if j = i then F' else S.Fs j) := ha
        by_cases e : j = i
        · rw [if_pos e] at ha; exact .inr (new a (hF' a ha))
        · rw [if_neg e] at ha; exact g.stp.fnew j a ha
    · rw [List.getElem?_set_ne fun e : i = j => hj (e ▸ hiM)]
      exact g.sig j hj
    · rw [List.getElem?_set_ne fun e : i = j => hio (e ▸ hj)]
      exact g.fix j hj
  by_cases hlt : i < S.env.length
  · exact key F (fun _ h => h) (fun _ => rfl) (fun h => absurd hlt h)
  · exact key [] (fun _ h => nomatch h) (fun h => absurd h hlt) (fun _ => rfl)
/-- values one beside the other, of one type -/
def RepsT (K : PySem.W.Frag) (H : Hp) (Z : Addr → Prop) : Tp → List PV → List V → List Addr → Prop
  | .cl, vs, ws, F => F = [] ∧ (∀ v ∈ vs, ∃ n, clean n v = true) ∧ Reps K H Z 0 vs ws []
  | .d n, vs, ws, F => Reps K H Z n vs ws F
theorem RepsT.cons {τ : Tp} {v : PV} {vs : List PV} {ws : List V} {F : List Addr} (h : RepsT K H Z τ (v :: vs) ws F) : ∃ w ws' F1 F2, ws = w :: ws' ∧ RepT K H Z τ v w F1 ∧ RepsT K H Z τ vs ws' F2 ∧ F = F1 ++ F2 ∧ ∀ a ∈ F1, a ∉ F2 := by
  cases τ with
  | cl =>
    obtain ⟨rfl, c, r⟩ := h
    generalize e : ([] : List Addr) = F0 at r
    cases r with
    | @cons _ _ _ w ws F G h1 h2 h3 =>
      have z1 := Rep.zeroF h1
      have z2 := Reps.zeroF h2
      subst z1 z2
      exact ⟨w, ws, [], [], rfl, ⟨rfl, c v (by simp), h1⟩, ⟨rfl, fun u hu => c u (by simp [hu]), h2⟩, rfl, fun _ h => nomatch h⟩
  | d n =>
    have h : Reps K H Z n (v :: vs) ws F := h
    cases h with
    | @cons _ _ _ w ws F G h1 h2 h3 => exact ⟨w, ws, F, G, rfl, h1, h2, rfl, h3⟩
theorem RepsT.nil {τ : Tp} {ws : List V} {F : List Addr} (h : RepsT K H Z τ [] ws F) : ws = [] := by
  cases τ with
  | cl => obtain ⟨_, _, r⟩ := h; cases r; rfl
  | d n => have h : Reps K H Z n [] ws F := h; cases h; rfl
theorem RepsT.len {τ : Tp} {vs : List PV} {ws : List V} {F : List Addr} (h : RepsT K H Z τ vs ws F) : vs.length = ws.length := by
  cases τ with
  | cl => exact h.2.2.length
  | d n => exact Reps.length h
theorem RepsT.trk {τ : Tp} {vs : List PV} {ws : List V} {F : List Addr} (h : RepsT K H Z τ vs ws F) : ∀ a ∈ F, ∃ o, H a = some o ∧ imm o = false := by
  cases τ with
  | cl => obtain ⟨e, _⟩ := h; subst e; intro a ha; cases ha
  | d n => exact Reps.trk h
/-- a tuple's or list's parts -/
theorem RepT.parts {τ : Tp} {xs : List PV} {w : V} {F : List Addr} (h : RepT K H Z τ (.tup xs) w F) : ∃ a ws, w = .ref a ∧ H a = some (.tup ws) ∧ RepsT K H Z τ.sub xs ws F := by
  cases τ with
  | cl =>
    obtain ⟨rfl, ⟨n, c⟩, r⟩ := h
    have cs : ∀ v ∈ xs, ∃ n, clean n v = true := clean_sub c
    cases r with
    | tup0 h1 h2 => exact ⟨_, _, rfl, h1, (⟨rfl, cs, h2⟩ : RepsT K H Z .cl xs _ [])⟩
  | d n =>
    have h : Rep K H Z n (.tup xs) w F := h
    cases h with
    | tup0 h1 h2 => exact ⟨_, _, rfl, h1, h2⟩
    | tupS h1 h2 => exact ⟨_, _, rfl, h1, h2⟩
theorem RepT.partsL {τ : Tp} {xs : List PV} {w : V} {F : List Addr} (h : RepT K H Z τ (.lst xs) w F) : ∃ a ws F', w = .ref a ∧ Rd H a (.lst ws) ∧ RepsT K H Z τ.sub xs ws F' ∧ ∀ b ∈ F', b ∈ F := by
  cases τ with
  | cl =>
    obtain ⟨rfl, ⟨n, c⟩, r⟩ := h
    cases n <;> simp [clean] at c
  | d n =>
    have h : Rep K H Z n (.lst xs) w F := h
    cases h with
    | lst0 h1 h2 => have e := Reps.zeroF h2; subst e; exact ⟨_, _, [], rfl, h1.1, h2, fun _ h => nomatch h⟩
    | lstS h1 h2 h3 => exact ⟨_, _, _, rfl, .of h1, h2, fun _ h => List.mem_cons_of_mem _ h⟩
/-- names that may be stored -/
def StoreOk (X : Cx) (sc : Scope) : Prop := ∀ x, locB sc x = true → Loc X.env.scope x ∧ (X.fn x = true ∨ X.env.scope.names.lookup x = some .local)
theorem locB_ok {sc : Scope} {x : Str} (h : locB sc x = true) : Loc sc x := by
  unfold locB at h
  split at h
  · exact .inl (by assumption)
  · exact .inr (by assumption)
  · cases h
theorem storeOk_def (h : ∀ x, X.fn x = true) : StoreOk X X.env.scope := fun x hx => ⟨locB_ok hx, .inl (h x)⟩
theorem typT_len : ∀ (t : Tg) {τ : Tp} {Γ : List Gt}, (typT t τ Γ).length = Γ.length := by
  intro t
  refine Tg.rec (motive_1 := fun t => ∀ (τ : Tp) (Γ : List Gt), (typT t τ Γ).length = Γ.length) (motive_2 := fun ts => ∀ (τ : Tp) (Γ : List Gt), (typTs ts τ Γ).length = Γ.length) ?_ ?_ ?_ ?_ t _ _
  · intro i τ Γ; simp only [typT, setT_len]
  · intro ts ih τ Γ; simp only [typT]; exact ih _ _
  · intro τ Γ; rfl
  · intro t ts h1 h2 τ Γ; simp only [typTs]; rw [h2, h1]
/-- what a store to t does -/
def StoreT (X : Cx) (c : Lp) (t : Tg) : Prop := ∀ {N : List Str} {sc : Scope} {e : Expr}, X.N = N → StoreOk X sc → meT N sc t e = true → ∀ {M : List Nat} {σ0 : St} {S0 : ASt} {σ : St} {S : ASt} {e1 : OI.Env} {Γ1 : List Gt} {τ : Tp} {v : PV} {w : V} {F : List Addr} {env' : OI.Env},
  SGot X.K c M σ0 S0 e1 Γ1 σ S → (∀ i ∈ t.slots, i ∈ M ∧ c.io ≠ some i ∧ i < S.G.length) → Tmp X.K S τ none v w F → (∀ a ∈ F, S0.H a = none ∨ Wr M S0 a) → storeT t v S.env = .ok env' →
  ∃ g, PG X e g ∧ ∀ Q : St → Hp → Prop, (∀ σ' S', S'.H = S.H → S'.Z = S.Z → (∀ j a, a ∈ S'.Fs j → a ∈ S.Fs j ∨ a ∈ F) → SGot X.K c M σ0 S0 env' (typT t τ S.G) σ' S' → Q σ' S'.H) → g w σ S.H Q
def StoreTs (X : Cx) (c : Lp) (ts : List Tg) : Prop := ∀ {N : List Str} {sc : Scope} {es : List Expr}, X.N = N → StoreOk X sc → meTs N sc ts es = true → ∀ {M : List Nat} {σ0 : St} {S0 : ASt} {σ : St} {S : ASt} {e1 : OI.Env} {Γ1 : List Gt} {τ : Tp} {vs : List PV} {ws : List V} {F : List Addr} {env' : OI.Env},
  SGot X.K c M σ0 S0 e1 Γ1 σ S → (∀ i ∈ Tg.slotsL ts, i ∈ M ∧ c.io ≠ some i ∧ i < S.G.length) → RepsT X.K S.H S.Z τ vs ws F → (∀ i, ∀ a ∈ F, a ∉ S.Fs i) → (∀ a ∈ F, ¬ S.Z a) → (∀ a ∈ F, S0.H a = none ∨ Wr M S0 a) → storeT.storeTs ts vs S.env = .ok env' →
  vs.length = ts.length ∧ ∃ g, PGs X es g ∧ ∀ Q : St → Hp → Prop, (∀ σ' S', S'.H = S.H → S'.Z = S.Z → (∀ j a, a ∈ S'.Fs j → a ∈ S.Fs j ∨ a ∈ F) → SGot X.K c M σ0 S0 env' (typTs ts τ S.G) σ' S' → Q σ' S'.H) → g ws σ S.H Q
theorem meTs_plain {N : List Str} {sc : Scope} : ∀ {ts : List Tg} {es : List Expr}, meTs N sc ts es = true → ∀ env, (assignEach es env).length = es.length ∧ (assignEach es env).findIdx? (·.1) = none ∧ ts.length = es.length
  | [], [], _, env => ⟨rfl, rfl, rfl⟩
  | [], _ :: _, h, _ => by simp [meTs] at h
  | _ :: _, [], h, _ => by simp [meTs] at h
  | t :: ts, e :: es, h, env => by
    simp only [meTs, Bool.and_eq_true] at h
    obtain ⟨a, b, d⟩ := meTs_plain h.2 env
    have hs : assignEach (e :: es) env = (false, assign e env) :: assignEach es env := by
      cases t <;> cases e <;> first | rfl | (simp [meT] at h)
    rw [hs]
    refine ⟨by simp [a], ?_, by simp [d]⟩
    rw [List.findIdx?_cons]
    simp [b]
theorem storeTs_len : ∀ {ts : List Tg} {vs : List PV} {env env' : OI.Env}, storeT.storeTs ts vs env = .ok env' → vs.length = ts.length
  | [], [], _, _, _ => rfl
  | [], _ :: _, _, _, h => by simp [storeT.storeTs] at h
  | _ :: _, [], _, _, h => by simp [storeT.storeTs] at h
  | t :: ts, v :: vs, _, _, h => by
    simp only [storeT.storeTs] at h
    obtain ⟨_, _, h2⟩ := Res.bind_ok.mp h
    simp [storeTs_len h2]
theorem store_tg (hN : X.N.Nodup) (hc : X.calm = true) (t : Tg) : StoreT X c t := by
  refine Tg.rec (motive_1 := fun t => StoreT X c t) (motive_2 := fun ts => StoreTs X c ts) ?_ ?_ ?_ ?_ t
  · intro i N sc e eN so me M σ0 S0 σ S e1 Γ1 τ v w F env' g hs tm new hst
    subst eN
    cases e <;> simp only [meT, Bool.false_eq_true] at me
    rename_i x pos
    simp only [Bool.and_eq_true, decide_eq_true_eq] at me
    obtain ⟨hl, hf⟩ := so x me.2
    simp only [storeT, Res.ok.injEq] at hst
    subst hst
    obtain ⟨h1, h2, h3⟩ := hs i (by simp [Tg.slots])
    obtain ⟨S', a1, a2, a3, a4⟩ := g.put h1 h2 h3 tm new
    refine ⟨_, pg_name hN me.1 hl hf, fun Q hQ => ?_⟩
    show Q (σ.set i (some w)) S.H
    rw [← a1]
    exact hQ _ _ a1 a2 a3 a4
  · intro ts ih N sc e eN so me M σ0 S0 σ S e1 Γ1 τ v w F env' g hs tm new hst
    cases e <;> simp only [meT, Bool.false_eq_true] at me
    rename_i es kk pos
    obtain ⟨pl1, pl2, pl3⟩ := meTs_plain me X.env
    cases v <;> simp only [storeT, reduceCtorEq] at hst
    · rename_i xs
      obtain ⟨a, ws, rfl, ha, rp⟩ := tm.rep.parts
      obtain ⟨lv, gs, pg, q⟩ := ih eN so me g (by simpa only [Tg.slots] using hs) rp (fun i => tm.own rfl i) tm.nz new hst
      refine ⟨_, pg_tup hc pg pl1 pl2, fun Q hQ => ⟨a, ws, rfl, .of ha, ?_, q Q fun σ' S' b1 b2 b3 b4 => hQ σ' S' b1 b2 b3 (by simpa only [typT] using b4)⟩⟩
      rw [← rp.len, lv, pl3]
    · rename_i xs
      obtain ⟨a, ws, F', rfl, ha, rp, hF⟩ := tm.rep.partsL
      obtain ⟨lv, gs, pg, q⟩ := ih eN so me g (by simpa only [Tg.slots] using hs) rp (fun i a h => tm.own rfl i a (hF a h)) (fun a h => tm.nz a (hF a h)) (fun a h => new a (hF a h)) hst
      refine ⟨_, pg_unl hc pg pl1 pl2, fun Q hQ => ⟨a, ws, rfl, .inl ha, ?_, q Q fun σ' S' b1 b2 b3 b4 => hQ σ' S' b1 b2 (fun j a h => (b3 j a h).imp id (hF a)) (by simpa only [typT] using b4)⟩⟩
      rw [← rp.len, lv, pl3]
  · intro N sc es eN so me M σ0 S0 σ S e1 Γ1 τ vs ws F env' g hs rp own nz new hst
    cases es <;> simp only [meTs, Bool.false_eq_true] at me
    cases vs <;> simp only [storeT.storeTs, reduceCtorEq] at hst
    simp only [Res.ok.injEq] at hst
    subst hst
    have := rp.nil
    subst this
    exact ⟨rfl, _, pgs_nil, fun Q hQ => ⟨rfl, hQ σ S rfl rfl (fun _ _ h => .inl h) ⟨rfl, rfl, g.stp, g.ok, g.len, g.sig, g.fix⟩⟩⟩
  · intro t ts ih1 ih2 N sc es eN so me M σ0 S0 σ S e1 Γ1 τ vs ws F env' g hs rp own nz new hst
    cases es with
    | nil => simp [meTs] at me
    | cons e es =>
      simp only [meTs, Bool.and_eq_true] at me
      cases vs <;> simp only [storeT.storeTs, reduceCtorEq] at hst
      rename_i v vs
      obtain ⟨env1, h1, h2⟩ := Res.bind_ok.mp hst
      obtain ⟨w, ws', F1, F2, rfl, r1, r2, rfl, dj⟩ := rp.cons
      obtain ⟨g1, p1, q1⟩ := ih1 eN so me.1 g (fun i hi => hs i (by simp only [Tg.slotsL]; exact List.mem_append_left _ hi)) ⟨r1, fun _ i a ha => own i a (List.mem_append_left _ ha), fun _ h => (nomatch h), fun a ha => nz a (List.mem_append_left _ ha)⟩ (fun a ha => new a (List.mem_append_left _ ha)) h1
      have hs' : (assignEach (e :: es) X.env).map (·.2) = assign e X.env :: (assignEach es X.env).map (·.2) := by
        have m1 := me.1
        cases t <;> cases e <;> first | rfl | (simp [meT] at m1)
      -- the rest's rule does not hang on the state
      have rest : vs.length = ts.length ∧ ∃ g2, PGs X es g2 ∧ ∀ σ' S', S'.H = S.H → S'.Z = S.Z → (∀ j a, a ∈ S'.Fs j → a ∈ S.Fs j ∨ a ∈ F1) → SGot X.K c M σ0 S0 env1 (typT t τ S.G) σ' S' → ∀ Q : St → Hp → Prop, (∀ σ2 S2, S2.H = S.H → S2.Z = S.Z → (∀ j a, a ∈ S2.Fs j → a ∈ S.Fs j ∨ a ∈ F1 ++ F2) → SGot X.K c M σ0 S0 env' (typTs (t :: ts) τ S.G) σ2 S2 → Q σ2 S2.H) → g2 ws' σ' S'.H Q := by
        have one : ∀ σ' S', S'.H = S.H → S'.Z = S.Z → (∀ j a, a ∈ S'.Fs j → a ∈ S.Fs j ∨ a ∈ F1) → SGot X.K c M σ0 S0 env1 (typT t τ S.G) σ' S' → vs.length = ts.length ∧ ∃ g2, PGs X es g2 ∧ ∀ Q : St → Hp → Prop, (∀ σ2 S2, S2.H = S.H → S2.Z = S.Z → (∀ j a, a ∈ S2.Fs j → a ∈ S.Fs j ∨ a ∈ F1 ++ F2) → SGot X.K c M σ0 S0 env' (typTs (t :: ts) τ S.G) σ2 S2 → Q σ2 S2.H) → g2 ws' σ' S'.H Q := by
          intro σ' S' e1 e2 e3 gS
          obtain ⟨lv, g2, p2, q2⟩ := ih2 eN so me.2 gS (fun i hi => by
            obtain ⟨x1, x2, x3⟩ := hs i (by simp only [Tg.slotsL]; exact List.mem_append_right _ hi)
            exact ⟨x1, x2, by rw [gS.g, typT_len]; exact x3⟩) (τ := τ) (vs := vs) (ws := ws') (F := F2) (by rw [e1, e2]; exact r2) (fun i a ha hb => by
              rcases e3 i a hb with z | z
              · exact own i a (List.mem_append_right _ ha) z
              · exact dj a z ha) (by rw [e2]; exact fun a ha => nz a (List.mem_append_right _ ha)) (fun a ha => new a (List.mem_append_right _ ha)) (by rw [gS.env]; exact h2)
          refine ⟨lv, g2, p2, fun Q hQ => q2 Q fun σ2 S2 f1 f2 f3 f4 => hQ σ2 S2 (f1.trans e1) (f2.trans e2) (fun j a ha => ?_) (by rw [gS.g] at f4; simpa only [typTs] using f4)⟩
          rcases f3 j a ha with z | z
          · exact (e3 j a z).imp id fun z => List.mem_append_left _ z
          · exact .inr (List.mem_append_right _ z)
        by_cases ex : ∃ σ' S', S'.H = S.H ∧ S'.Z = S.Z ∧ (∀ j a, a ∈ S'.Fs j → a ∈ S.Fs j ∨ a ∈ F1) ∧ SGot X.K c M σ0 S0 env1 (typT t τ S.G) σ' S'
        · obtain ⟨σ', S', e1, e2, e3, e4⟩ := ex
          refine ⟨(one σ' S' e1 e2 e3 e4).1, fun ws σ H Q => ∃ g2, PGs X es g2 ∧ g2 ws σ H Q, ⟨fun pins s σ H vs us Q I r ⟨g2, p2, h⟩ => p2.run pins s σ H vs us Q I r h⟩, fun σ' S' e1 e2 e3 e4 Q hQ => ?_⟩
          obtain ⟨_, g2, p2, q2⟩ := one σ' S' e1 e2 e3 e4
          exact ⟨g2, p2, q2 Q hQ⟩
        · exact ⟨storeTs_len h2, fun _ _ _ _ => False, ⟨fun _ _ _ _ _ _ _ _ _ h => h.elim⟩, fun σ' S' e1 e2 e3 e4 => absurd ⟨σ', S', e1, e2, e3, e4⟩ ex⟩
      obtain ⟨lv, g2, p2, q2⟩ := rest
      refine ⟨by simp [lv], _, pgs_cons p1 p2 hs', fun Q hQ => ⟨w, ws', rfl, q1 _ fun σ' S' a1 a2 a3 a4 => ?_⟩⟩
      exact q2 σ' S' a1 a2 a3 a4 Q hQ
end
end OI
set_option maxRecDepth 100000
set_option maxHeartbeats 4000000
/-! OI29: simple statements. -/
namespace OI
open PySem PySem.Spec PyProof.Rows L2
section
variable {T : List FnA} {X : Cx} {K : PySem.W.Frag} {c : Lp} {σ σ' σ2 σ0 : St} {S S' S2 S0 : ASt} {M M' : List Nat} {H H' : Hp} {Z : Addr → Prop}
theorem pg_any {e : Expr} : PG X e (fun v σ H Q => ∃ g, PG X e g ∧ g v σ H Q) := ⟨fun pins s σ H v u Q I r ⟨_, p, h⟩ => p.run pins s σ H v u Q I r h⟩
theorem swaps_plain {e : Expr} {t : Option Expr} {l : Nat} {env : PySem.Env} (h : notComp e = true) : swapsWith e t l env = pure false := by
  cases e <;> first | rfl | (simp [notComp] at h)
theorem swapped_name {x : Str} {p : Pos} {e : Expr} {env : PySem.Env} : swappedStores [.Name x p] e env = pure none := by
  unfold swappedStores
  rfl
theorem swapped_notTup {tg e : Expr} {env : PySem.Env} (h : notTup e = true) : swappedStores [tg] e env = pure none := by
  unfold swappedStores
  cases tg <;> cases e <;> first | rfl | (simp [notTup] at h)
theorem SGot.ofGot {env' : OI.Env} {Γ' : List Gt} {r : TR} {v : PV} {w : V} {F : List Addr} (g : Got K σ M' S env' Γ' r v S' w F) (hs : ∀ i ∈ M', i ∈ M) : SGot K c M σ S env' Γ' σ S' := (SGot.stepd g.stepd).mono hs
theorem snd_sexpr {e : E} (h : SndE T e) : SndS T (.expr e) := by
  have ih := snd_iff.mp h
  intro X G ER W k g s he c σ S tr ht o
  cases s <;> simp only [meS, Bool.false_eq_true] at he
  rename_i q pos
  simp only [Bool.and_eq_true] at he
  simp only [typS, Option.map_eq_some_iff] at ht
  obtain ⟨⟨r, Γ1⟩, t1, rfl⟩ := ht
  have s1 := ih X G ER W k g.toGood q he.2 σ S r Γ1 t1 o
  refine ⟨fun f ev D hD => ?_, fun x ev D hx => ?_⟩
  · simp only [evalS, Res.bind_ok, Res.ok.injEq] at ev
    obtain ⟨⟨v, env1⟩, ev, rfl⟩ := ev
    exact .of (ps_expr pe_we (swaps_plain he.1)) (s1.ok v env1 ev _ fun S1 w F g1 => hD Γ1 σ S1 rfl (.ofGot g1 fun i hi => by simpa only [tchS] using hi))
  · simp only [evalS, Res.bind_exc] at ev
    rcases ev with ev | ⟨_, _, ev⟩
    · exact .of (ps_expr pe_we (swaps_plain he.1)) (s1.exc x ev _ (hx.xw.mono fun i hi => by simpa only [tchS] using hi))
    · cases ev
theorem snd_pass : SndS T .pass := by
  intro X G ER W k g s he c σ S tr ht o
  cases s <;> simp only [meS, Bool.false_eq_true] at he
  simp only [typS, Option.some.injEq] at ht
  subst ht
  refine ⟨fun f ev D hD => ?_, fun x ev D hx => ?_⟩
  · simp only [evalS, Res.ok.injEq] at ev
    subst ev
    exact .of ps_pass (hD S.G σ S rfl (.refl o))
  · simp [evalS] at ev
theorem snd_brk : SndS T .brk := by
  intro X G ER W k g s he c σ S tr ht o
  cases s <;> simp only [meS, Bool.false_eq_true] at he
  simp only [typS] at ht
  split at ht
  · rename_i Γh hl
    split at ht
    · rename_i hw
      cases ht
      refine ⟨fun f ev D hD => ?_, fun x ev D hx => ?_⟩
      · simp only [evalS, Res.ok.injEq] at ev
        subst ev
        exact .of ps_break (hD Γh S.G σ S hl hw (.refl o))
      · simp [evalS] at ev
    · cases ht
  · cases ht
theorem snd_cnt : SndS T .cnt := by
  intro X G ER W k g s he c σ S tr ht o
  cases s <;> simp only [meS, Bool.false_eq_true] at he
  simp only [typS] at ht
  split at ht
  · rename_i Γh hl
    split at ht
    · rename_i hw
      cases ht
      refine ⟨fun f ev D hD => ?_, fun x ev D hx => ?_⟩
      · simp only [evalS, Res.ok.injEq] at ev
        subst ev
        exact .of ps_continue (hD Γh S.G σ S hl hw (.refl o))
      · simp [evalS] at ev
    · cases ht
  · cases ht
theorem snd_retN : SndS T .retN := by
  intro X G ER W k g s he c σ S tr ht o
  cases s <;> simp only [meS, Bool.false_eq_true] at he
  rename_i v pos
  cases v <;> simp only [Bool.false_eq_true] at he
  simp only [typS] at ht
  split at ht
  · rename_i hio
    cases ht
    refine ⟨fun f ev D hD => ?_, fun x ev D hx => ?_⟩
    · simp only [evalS, Res.ok.injEq] at ev
      subst ev
      exact .of ps_retN (hD (.cl, none) S.G σ S .non [] (by simp [retOk]) hio (.refl o) ⟨⟨rfl, ⟨1, rfl⟩, .non⟩, fun _ _ _ h => (nomatch h), fun _ h => (nomatch h), fun _ h => (nomatch h)⟩ fun _ h => nomatch h)
    · simp [evalS] at ev
  · cases ht
theorem snd_ret {e : E} (h : SndE T e) : SndS T (.ret e) := by
  have ih := snd_iff.mp h
  intro X G ER W k g s he c σ S tr ht o
  cases s <;> simp only [meS, Bool.false_eq_true] at he
  rename_i v pos
  cases v <;> simp only [Bool.false_eq_true] at he
  rename_i q
  simp only [typS] at ht
  cases t1 : typE T e S.G with
  | none => simp [t1] at ht
  | some p1 =>
    obtain ⟨r, Γ1⟩ := p1
    simp only [t1] at ht
    split at ht
    · rename_i hc
      cases ht
      simp only [Bool.and_eq_true] at hc
      have s1 := ih X G ER W k g.toGood q he σ S r Γ1 t1 o
      refine ⟨fun f ev D hD => ?_, fun x ev D hx => ?_⟩
      · simp only [evalS, Res.bind_ok, Res.ok.injEq] at ev
        obtain ⟨⟨v, env1⟩, ev, rfl⟩ := ev
        refine .of (ps_ret pe_we) (s1.ok v env1 ev _ fun S1 w F g1 => ?_)
        have h2 : r.2 = none := by
          have := hc.1
          simp only [retOk, Bool.and_eq_true, Option.isNone_iff_eq_none] at this
          exact this.1
        have tm := g1.tmp
        rw [h2] at tm
        exact hD r Γ1 σ S1 w F hc.1 hc.2 (.ofGot g1 fun i hi => by simpa only [tchS] using hi) tm fun a ha => by simpa only [tchS] using g1.new h2 a ha
      · simp only [evalS, Res.bind_exc] at ev
        rcases ev with ev | ⟨_, _, ev⟩
        · exact .of (ps_ret pe_we) (s1.exc x ev _ (hx.xw.mono fun i hi => by simpa only [tchS] using hi))
        · cases ev
    · cases ht
theorem meT_each {N : List Str} {sc : Scope} {t : Tg} {tg : Expr} {env : PySem.Env} (h : meT N sc t tg = true) : (assignEach [tg] env).map (·.2) = [assign tg env] := by
  cases t <;> cases tg <;> first | rfl | (simp [meT] at h)
theorem storeT_exc : ∀ (t : Tg) {v : PV} {env : OI.Env} {x : PV}, storeT t v env ≠ .exc x := by
  intro t
  refine Tg.rec (motive_1 := fun t => ∀ (v : PV) (env : OI.Env) (x : PV), storeT t v env ≠ .exc x) (motive_2 := fun ts => ∀ (vs : List PV) (env : OI.Env) (x : PV), storeT.storeTs ts vs env ≠ .exc x) ?_ ?_ ?_ ?_ t _ _ _
  · intro i v env x; simp [storeT]
  · intro ts ih v env x; cases v <;> simp only [storeT] <;> first | exact ih _ _ _ | simp
  · intro vs env x; cases vs <;> simp [storeT.storeTs]
  · intro t ts h1 h2 vs env x
    cases vs with
    | nil => simp [storeT.storeTs]
    | cons v vs =>
      simp only [storeT.storeTs]
      intro h
      rcases Res.bind_exc.mp h with h | ⟨_, _, h⟩
      · exact h1 _ _ _ h
      · exact h2 _ _ _ h
theorem tgOk_ok {Γ : List Gt} {is : List Nat} (h : tgOk c Γ is = true) : is.Nodup ∧ ∀ i ∈ is, i < Γ.length ∧ c.io ≠ some i := by
  simp only [tgOk, Bool.and_eq_true, List.all_eq_true, decide_eq_true_eq] at h
  exact ⟨distinct_nodup h.1, h.2⟩
/-- t = e by the plain way -/
theorem asg_plain {t : Tg} {e : E} {X : Cx} {G : Ctx} {ER : ERel} {W : WX} {k : Nat} {tg q : Expr} {spos : Pos} {r : TR} {Γ1 : List Gt} (g : GoodS X T G ER W k) (s1 : SndO T X G ER W e q σ S r Γ1) (mt : meT X.N X.env.scope t tg = true) (hr : r.2.isNone = true) (ht : tgOk c Γ1 t.slots = true)
    (rule : ∀ gg, PG X tg gg → PS X (.Assign [tg] q spos) (tAsg (WE X q) gg)) : SndSO T X G ER W c (.asg t e) (.Assign [tg] q spos) σ S (some (typT t r.1 Γ1)) := by
  refine ⟨fun f ev D hD => ?_, fun x ev D hx => ?_⟩
  · simp only [evalS, Res.bind_ok, Res.ok.injEq] at ev
    obtain ⟨⟨v, env1⟩, ev, env2, hst, rfl⟩ := ev
    refine .of (rule _ pg_any) (s1.ok v env1 ev _ fun S1 w F g1 => ?_)
    have h2 : r.2 = none := by simpa using hr
    have tm := g1.tmp
    rw [h2] at tm
    have hM : ∀ i ∈ tchE e, i ∈ tchS (.asg t e) := fun i hi => by simp only [tchS]; exact List.mem_append_right _ hi
    obtain ⟨gg, pg, hq⟩ := store_tg g.nd g.calm t rfl (storeOk_def g.fn) mt (SGot.ofGot (c := c) g1 hM) (fun i hi => ⟨by simp only [tchS]; exact List.mem_append_left _ hi, ((tgOk_ok ht).2 i hi).2, by rw [g1.g]; exact ((tgOk_ok ht).2 i hi).1⟩) tm (fun a ha => (g1.new h2 a ha).imp id fun ⟨i, m, z⟩ => ⟨i, hM i m, z⟩) (by rw [g1.env]; exact hst)
    exact ⟨gg, pg, hq _ fun σ' S' e1 e2 e3 g3 => hD _ σ' S' rfl (by rw [g1.g] at g3; exact g3)⟩
  · simp only [evalS, Res.bind_exc] at ev
    rcases ev with ev | ⟨_, _, ev | ⟨_, _, ev⟩⟩
    · exact .of (rule _ pg_any) (s1.exc x ev _ (hx.xw.mono fun i hi => by simp only [tchS]; exact List.mem_append_right _ hi))
    · exact absurd ev (storeT_exc t)
    · cases ev
/-! ### several at once -/
def setAll : St → List Nat → List V → St
  | σ, i :: is, w :: ws => setAll (σ.set i (some w)) is ws
  | σ, _, _ => σ
theorem Tmps.moved {rs : List TR} {vs : List PV} {ws : List V} {Fl : List (List Addr)} (h : Tmps K S rs vs ws Fl) (hn : rs.all (·.2.isNone) = true) (eH : S'.H = S.H) (eZ : S'.Z = S.Z) (hF : ∀ G ∈ Fl, ∀ a ∈ G, ∀ j, a ∈ S'.Fs j → a ∈ S.Fs j) : Tmps K S' rs vs ws Fl := by
  induction h with
  | nil => exact .nil
  | @cons r rs v vs w ws F Fl t _ d ih =>
    simp only [List.all_cons, Bool.and_eq_true, Option.isNone_iff_eq_none] at hn
    have hnr : r.2 = none := hn.1
    refine .cons ⟨by rw [eH, eZ]; exact t.rep, fun e j a ha hb => t.own e j a ha (hF F (by simp) a ha j hb), fun x e => ?_, fun a ha => by rw [eZ]; exact t.nz a ha⟩ (ih hn.2 fun G hG => hF G (by simp [hG])) d
    rw [hnr] at e; cases e
theorem SGot.puts : ∀ {is : List Nat} {rs : List TR} {vs : List PV} {ws : List V} {Fl : List (List Addr)} {σ : St} {S : ASt} {e1 : OI.Env} {Γ1 : List Gt}, SGot K c M σ0 S0 e1 Γ1 σ S → Tmps K S rs vs ws Fl → rs.all (·.2.isNone) = true → is.length = rs.length → (∀ i ∈ is, i ∈ M ∧ c.io ≠ some i ∧ i < S.G.length) → (∀ G ∈ Fl, ∀ a ∈ G, S0.H a = none ∨ Wr M S0 a) →
    ∃ S', S'.H = S.H ∧ SGot K c M σ0 S0 (setVs S.env is vs) (parT is rs S.G) (setAll σ is ws) S'
  | [], [], _, _, _, σ, S, e1, Γ1, g, h, _, _, _, _ => by
    cases h
    exact ⟨S, rfl, by simpa only [setVs, parT, setAll] using (⟨rfl, rfl, g.stp, g.ok, g.len, g.sig, g.fix⟩ : SGot K c M σ0 S0 S.env S.G σ S)⟩
  | [], _ :: _, _, _, _, _, _, _, _, _, _, _, h, _, _ => by simp at h
  | _ :: _, [], _, _, _, _, _, _, _, _, _, _, h, _, _ => by simp at h
  | i :: is, r :: rs, _, _, _, σ, S, e1, Γ1, g, h, hn, hl, hi, new => by
    cases h with
    | @cons _ _ v vs w ws F Fl t ts d =>
      simp only [List.all_cons, Bool.and_eq_true, Option.isNone_iff_eq_none] at hn
      have hnr : r.2 = none := hn.1
      rw [hnr] at t
      obtain ⟨h1, h2, h3⟩ := hi i (by simp)
      obtain ⟨S1, a1, a2, a3, a4⟩ := g.put h1 h2 h3 t (new F (by simp))
      have ts1 : Tmps K S1 rs vs ws Fl := ts.moved hn.2 a1 a2 fun G hG a ha j hj => by
        rcases a3 j a hj with z | z
        · exact z
        · exact absurd ha (d hnr G hG a z)
      obtain ⟨S2, b1, b2⟩ := SGot.puts a4 ts1 hn.2 (by simpa using hl) (fun j hj => by
        obtain ⟨x1, x2, x3⟩ := hi j (by simp [hj])
        exact ⟨x1, x2, by rw [a4.g, setT_len]; exact x3⟩) (fun G hG => new G (by simp [hG]))
      refine ⟨S2, b1.trans a1, ?_⟩
      simp only [setVs, parT, setAll]
      rw [a4.env, a4.g] at b2
      exact b2
/-- names as targets -/
def gNs : List Nat → TGs
  | [] => gNil
  | i :: is => gCons (gName i) (gNs is)
theorem pgs_names (hN : X.N.Nodup) (so : StoreOk X X.env.scope) : ∀ {is : List Nat} {ts : List Expr}, meTs X.N X.env.scope (is.map Tg.nm) ts = true → PGs X ts (gNs is)
  | [], [], _ => pgs_nil
  | [], _ :: _, h => by simp [meTs] at h
  | _ :: _, [], h => by simp [meTs] at h
  | i :: is, t :: ts, h => by
    simp only [List.map_cons, meTs, Bool.and_eq_true] at h
    cases t <;> simp only [meT, Bool.false_eq_true, false_and] at h
    rename_i x pos
    simp only [Bool.and_eq_true, decide_eq_true_eq] at h
    obtain ⟨hl, hf⟩ := so x h.1.2
    exact pgs_cons (pg_name hN h.1.1 hl hf) (pgs_names hN so h.2)
theorem gNs_of {Q : St → Hp → Prop} : ∀ {is : List Nat} {ws : List V} {σ : St}, is.length = ws.length → Q (setAll σ is ws) H → gNs is ws σ H Q
  | [], [], σ, _, q => ⟨rfl, q⟩
  | [], _ :: _, _, h, _ => by simp at h
  | _ :: _, [], _, h, _ => by simp at h
  | i :: is, w :: ws, σ, h, q => ⟨w, ws, rfl, gNs_of (by simpa using h) q⟩
theorem swapped_plain {ts vs : List Expr} {k1 k2 : Nat} {p1 p2 : Pos} {env : PySem.Env} (h : plainNs env.scope ts vs = true) (hk : env.scope.kind = .function) : swappedStores [.Tuple ts k1 p1] (.Tuple vs k2 p2) env = pure none := by
  simp only [plainNs, Bool.and_eq_true, decide_eq_true_eq] at h
  obtain ⟨⟨⟨hl, _⟩, hp⟩, h⟩ := h
  unfold swappedStores
  show (if _ then pure none else _) = pure none
  split
  · rfl
  · rename_i h1
    split
    · rfl
    · rename_i h2
      show (if _ then pure none else _) = pure none
      split
      · rfl
      · rename_i h3
        split
        · rfl
        · rename_i h4
          exfalso
          simp only [Bool.or_eq_true, Bool.and_eq_true] at h
          rcases h with (h | h) | h
          · apply h1
            have a1 : (ts.length == 2) = false := by simpa using h.1
            have a2 : (ts.length == 3) = false := by simpa using h.2
            simp [a1, a2]
          · exact h4 h
          · apply h3
            obtain ⟨t, ht, hx⟩ := List.any_eq_true.mp h
            have : (ts.filterMap fun t => match t with
                | .Name id pos => if env.kindOf id == some .local && pos.line == (ts.head?.map (·.pos.line)).getD 0 then some id else none
                | _ => none).length ≠ ts.length := by
              intro e
              have e2 := filterMap_all e t ht
              cases t <;> simp only [reduceCtorEq, Option.isSome_none, Bool.false_eq_true] at e2
              rename_i x p
              simp only [decide_eq_true_eq] at hx
              have : env.kindOf x = env.scope.names.lookup x := rfl
              rw [this] at e2
              simp [hx] at e2
            simp only [Bool.or_eq_true, bne_iff_ne]
            exact .inl this
where
  filterMap_all {α β : Type} {f : α → Option β} : ∀ {xs : List α}, (xs.filterMap f).length = xs.length → ∀ x ∈ xs, (f x).isSome = true
    | [], _, x, h => by cases h
    | y :: ys, e, x, h => by
      rw [List.filterMap_cons] at e
      cases q : f y with
      | none =>
        rw [q] at e
        have := List.length_filterMap_le f ys
        simp at e
        omega
      | some z =>
        rw [q] at e
        rcases List.mem_cons.mp h with rfl | h
        · simp [q]
        · exact filterMap_all (xs := ys) (by simpa using e) x h
end
end OI
set_option maxRecDepth 100000
set_option maxHeartbeats 4000000
/-! OI30: assignments. -/
namespace OI
open PySem PySem.Spec PyProof.Rows L2
section
variable {T : List FnA} {X : Cx} {K : PySem.W.Frag} {c : Lp} {σ σ' σ2 σ0 : St} {S S' S2 S0 : ASt} {M M' : List Nat} {H H' : Hp} {Z : Addr → Prop}
theorem swapped_two {x y : Str} {px py p1 p2 : Pos} {a b : Expr} {k1 k2 : Nat} {env : PySem.Env} (h : swapNs env.scope [.Name x px, .Name y py] [a, b] = true) (hk : env.scope.kind = .function) :
    swappedStores [.Tuple [.Name x px, .Name y py] k1 p1] (.Tuple [a, b] k2 p2) env = pure (some [x, y]) ∧ x ≠ y ∧ env.scope.names.lookup x = some .local ∧ env.scope.names.lookup y = some .local := by
  simp only [swapNs, List.all_cons, List.all_nil, Bool.and_true, Bool.and_eq_true, decide_eq_true_eq, namesOf, swapNs.distinctS, List.contains_cons, List.contains_nil, Bool.or_false, Bool.not_eq_true', beq_eq_false_iff_ne, ne_eq, List.head?_cons, Option.map_some, Option.getD_some, Expr.pos] at h
  obtain ⟨⟨⟨⟨⟨_, ⟨hx, lx⟩, hy, ly⟩, hne⟩, hf⟩, hc⟩, hp⟩ := h
  have hne : x ≠ y := by simpa using hne
  refine ⟨?_, hne, hx, hy⟩
  have kx : env.kindOf x = some .local := hx
  have ky : env.kindOf y = some .local := hy
  have hb : env.blockKind = .function := by unfold Env.blockKind; rw [hk]; rfl
  have st : ∀ e, plainX e = true → (match e with | .Starred .. => true | _ => false) = false := fun e he => by cases e <;> first | rfl | (simp [plainX] at he)
  unfold swappedStores
  have e1 : (y == x) = false := by simpa using Ne.symm hne
  have e2 : (x == y) = false := by simpa using hne
  have a1 : ([a, b].any fun | .Starred .. => true | _ => false) = false := by
    simp only [List.any_cons, List.any_nil, Bool.or_false]
    rw [st a hp.1, st b hp.2]; rfl
  have a2 : ([a, b].all (foldedForSure 8)) = false := by simpa using hf
  have a3 : ([a, b].all (constantsAlone 8)) = false := by simpa using hc
  have a4 : ([x, y] : List Str).eraseDups = [x, y] := by
    simp [List.eraseDups_cons, e1]
  simp only [List.length_cons, List.length_nil, hb]
  show (if _ then pure none else _) = _
  rw [if_neg (by decide)]
  have nm : ([Expr.Name x px, Expr.Name y py].filterMap fun
    | .Name id pos => if env.kindOf id == some .local && pos.line == ((([Expr.Name x px, Expr.Name y py] : List Expr).head?.map (·.pos.line)).getD 0) then some id else none
    | _ => none) = [x, y] := by
    simp only [List.filterMap_cons, List.filterMap_nil, kx, ky, List.head?_cons, Option.map_some, Option.getD_some, Expr.pos, lx, ly]
    simp
  show (if _ then pure none else _) = _
  have fin : ∀ L : List Str, L = [x, y] → ((if (L.length != 2 || L.eraseDups.length != L.length) = true then (pure none : Sem (Option (List Str))) else if ([a, b].all (foldedForSure 8)) = true then pure none else if ([a, b].all (constantsAlone 8)) = true then (do unsupported "assign.tuple-of-constant-expressions:order-of-the-stores"; return some L) else return some L) : Sem (Option (List Str))) = pure (some [x, y]) := by
    rintro _ rfl
    rw [a4, if_neg (by simp), if_neg (by rw [a2]; decide), if_neg (by rw [a3]; decide)]
  split
  · rename_i h
    exact absurd (a1.symm.trans h) Bool.false_ne_true
  · exact fin _ nm
theorem swapped_three {x y z : Str} {px py pz p1 p2 : Pos} {a b d : Expr} {k1 k2 : Nat} {env : PySem.Env} (h : swapNs env.scope [.Name x px, .Name y py, .Name z pz] [a, b, d] = true) (hk : env.scope.kind = .function) :
    swappedStores [.Tuple [.Name x px, .Name y py, .Name z pz] k1 p1] (.Tuple [a, b, d] k2 p2) env = pure (some [x, y, z]) ∧ (x ≠ y ∧ x ≠ z ∧ y ≠ z) ∧ env.scope.names.lookup x = some .local ∧ env.scope.names.lookup y = some .local ∧ env.scope.names.lookup z = some .local := by
  simp only [swapNs, List.all_cons, List.all_nil, Bool.and_true, Bool.and_eq_true, decide_eq_true_eq, namesOf, swapNs.distinctS, List.contains_cons, List.contains_nil, Bool.or_false, Bool.not_eq_true', Bool.or_eq_false_iff, beq_eq_false_iff_ne, ne_eq, List.head?_cons, Option.map_some, Option.getD_some, Expr.pos] at h
  obtain ⟨⟨⟨⟨⟨_, ⟨hx, lx⟩, ⟨hy, ly⟩, hz, lz⟩, hne⟩, hf⟩, hc⟩, hp⟩ := h
  have hne : x ≠ y ∧ x ≠ z ∧ y ≠ z := ⟨hne.1.1, hne.1.2, by simpa using hne.2⟩
  refine ⟨?_, hne, hx, hy, hz⟩
  have kx : env.kindOf x = some .local := hx
  have ky : env.kindOf y = some .local := hy
  have kz : env.kindOf z = some .local := hz
  have hb : env.blockKind = .function := by unfold Env.blockKind; rw [hk]; rfl
  have st : ∀ e, plainX e = true → (match e with | .Starred .. => true | _ => false) = false := fun e he => by cases e <;> first | rfl | (simp [plainX] at he)
  unfold swappedStores
  have e1 : (y == x) = false := by simpa using Ne.symm hne.1
  have e2 : (z == x) = false := by simpa using Ne.symm hne.2.1
  have e3 : (z == y) = false := by simpa using Ne.symm hne.2.2
  have a1 : ([a, b, d].any fun | .Starred .. => true | _ => false) = false := by
    simp only [List.any_cons, List.any_nil, Bool.or_false]
    rw [st a hp.1, st b hp.2.1, st d hp.2.2]; rfl
  have a2 : ([a, b, d].all (foldedForSure 8)) = false := by simpa using hf
  have a3 : ([a, b, d].all (constantsAlone 8)) = false := by simpa using hc
  have a4 : ([x, y, z] : List Str).eraseDups = [x, y, z] := by
    simp [List.eraseDups_cons, e1, e2, e3]
  simp only [List.length_cons, List.length_nil, hb]
  show (if _ then pure none else _) = _
  rw [if_neg (by decide)]
  have nm : ([Expr.Name x px, Expr.Name y py, Expr.Name z pz].filterMap fun
    | .Name id pos => if env.kindOf id == some .local && pos.line == ((([Expr.Name x px, Expr.Name y py, Expr.Name z pz] : List Expr).head?.map (·.pos.line)).getD 0) then some id else none
    | _ => none) = [x, y, z] := by
    simp only [List.filterMap_cons, List.filterMap_nil, kx, ky, kz, List.head?_cons, Option.map_some, Option.getD_some, Expr.pos, lx, ly, lz]
    simp
  show (if _ then pure none else _) = _
  have fin : ∀ L : List Str, L = [x, y, z] → ((if (L.length != 3 || L.eraseDups.length != L.length) = true then (pure none : Sem (Option (List Str))) else if ([a, b, d].all (foldedForSure 8)) = true then pure none else if ([a, b, d].all (constantsAlone 8)) = true then (do unsupported "assign.tuple-of-constant-expressions:order-of-the-stores"; return some L) else return some L) : Sem (Option (List Str))) = pure (some [x, y, z]) := by
    rintro _ rfl
    rw [a4, if_neg (by simp), if_neg (by rw [a2]; decide), if_neg (by rw [a3]; decide)]
  split
  · rename_i h
    exact absurd (a1.symm.trans h) Bool.false_ne_true
  · exact fin _ nm
end
end OI
set_option maxRecDepth 100000
set_option maxHeartbeats 4000000
/-! OI31: assignments keep what the interpreter says. -/
namespace OI
open PySem PySem.Spec PyProof.Rows L2
section
variable {T : List FnA} {X : Cx} {K : PySem.W.Frag} {c : Lp} {σ σ' σ2 σ0 : St} {S S' S2 S0 : ASt} {M M' : List Nat} {H H' : Hp} {Z : Addr → Prop}
/-- the two halves, by any reading te -/
structure SndOT (K : PySem.W.Frag) (G : Ctx) (ER : ERel) (W : WX) (e' : E) (te : TE) (σ : St) (S : ASt) (r : TR) (Γ' : List Gt) : Prop where
  ok : ∀ v env', evalE G e' S.env = .ok (v, env') → ∀ Q : VK, (∀ S' w F, Got K σ (tchE e') S env' Γ' r v S' w F → Q w S'.H) → te σ S.H Q
  exc : ∀ x, evalE G e' S.env = .exc x → ∀ Q : VK, XW ER W σ (tchE e') S x → te σ S.H Q
theorem SndO.ot {G : Ctx} {ER : ERel} {W : WX} {e' : E} {e : Expr} {r : TR} {Γ' : List Gt} (s : SndO T X G ER W e' e σ S r Γ') : SndOT X.K G ER W e' (WE X e) σ S r Γ' := ⟨s.ok, s.exc⟩
theorem swapsSole_plain {t e : Expr} {l : Nat} {env : PySem.Env} (h : notComp e = true) : swapsWithSole [t] e l env = pure false := by
  unfold swapsWithSole
  exact swaps_plain h
theorem asg_name {i : Nat} {e : E} {X : Cx} {G : Ctx} {ER : ERel} {W : WX} {st : Stmt} {r : TR} {Γ1 : List Gt} {te : TE} (s1 : SndOT X.K G ER W e te σ S r Γ1) (hr : r.2.isNone = true) (ht : tgOk c Γ1 [i] = true)
    (rule : PS X st (tAsg te (gName i))) : SndSO T X G ER W c (.asg (.nm i) e) st σ S (some (setT i (.t r.1) Γ1)) := by
  refine ⟨fun f ev D hD => ?_, fun x ev D hx => ?_⟩
  · simp only [evalS, Res.bind_ok, Res.ok.injEq, storeT] at ev
    obtain ⟨⟨v, env1⟩, ev, env2, rfl, rfl⟩ := ev
    refine .of rule (s1.ok v env1 ev _ fun S1 w F g1 => ?_)
    have h2 : r.2 = none := by simpa using hr
    have tm := g1.tmp
    rw [h2] at tm
    have hM : ∀ i' ∈ tchE e, i' ∈ tchS (.asg (.nm i) e) := fun i' hi => by simp only [tchS]; exact List.mem_append_right _ hi
    obtain ⟨t1, t2⟩ := (tgOk_ok ht).2 i (by simp)
    obtain ⟨S', a1, a2, a3, a4⟩ := (SGot.ofGot (c := c) g1 hM).put (i := i) (by simp [tchS, Tg.slots]) t2 (by rw [g1.g]; exact t1) tm fun a ha => (g1.new h2 a ha).imp id fun ⟨i, m, z⟩ => ⟨i, hM i m, z⟩
    show D.nx _ S1.H
    rw [← a1]
    rw [g1.env, g1.g] at a4
    exact hD _ _ S' rfl a4
  · simp only [evalS, Res.bind_exc] at ev
    rcases ev with ev | ⟨_, _, ev | ⟨_, _, ev⟩⟩
    · exact .of rule (s1.exc x ev _ (hx.xw.mono fun i hi => by simp only [tchS]; exact List.mem_append_right _ hi))
    · exact absurd ev (storeT_exc _)
    · cases ev
/-- what is asked of a comprehension that is given to a name -/
def SetLc (T : List FnA) (e : E) : Prop := ∀ (X : Cx) (G : Ctx) (ER : ERel) (W : WX) (k : Nat), GoodS X T G ER W k → ∀ (q : Expr) (x : Str) (p : Pos) (i : Nat) (spos : Pos), meE T X.N X.env.scope e q = true → X.N[i]? = some x → X.env.scope.names.lookup x = some .local → notComp q = false →
  lcOk x p q = true →
  ∃ te, PS X (.Assign [.Name x p] q spos) (tAsg te (gName i)) ∧ ∀ (σ : St) (S : ASt) (r : TR) (Γ' : List Gt), typE T e S.G = some (r, Γ') → Ok X.K σ S → SndOT X.K G ER W e te σ S r Γ'
theorem snd_asg {t : Tg} {e : E} (h : SndE T e) (hlc : SetLc T e) : SndS T (.asg t e) := by
  have ih := snd_iff.mp h
  intro X G ER W k g s he c σ S tr ht o
  cases s <;> simp only [meS, Bool.false_eq_true] at he
  rename_i tgs q spos
  match tgs, he with
  | [tg], he =>
    simp only [Bool.and_eq_true] at he
    obtain ⟨⟨mt, me⟩, hcase⟩ := he
    simp only [typS] at ht
    cases t1 : typE T e S.G with
    | none => simp [t1] at ht
    | some p1 =>
      obtain ⟨r, Γ1⟩ := p1
      simp only [t1] at ht
      split at ht
      · rename_i hc
        cases ht
        simp only [Bool.and_eq_true] at hc
        have s1 := ih X G ER W k g.toGood q me σ S r Γ1 t1 o
        cases tg <;> first | (simp only [Bool.false_eq_true] at hcase; done) | skip
        · rename_i x p
          cases t with
          | tp ts => simp [meT] at mt
          | nm i =>
            have mt' := mt
            simp only [meT, Bool.and_eq_true, decide_eq_true_eq] at mt'
            by_cases hn : notComp q = true
            · exact asg_name s1.ot hc.1 hc.2 (ps_set g.nd mt'.1 (locB_ok mt'.2) pe_we (swaps_plain hn) (.inl (g.fn x)))
            · have hn : notComp q = false := by simpa using hn
              simp only [hn, Bool.false_or] at hcase
              simp only [Bool.and_eq_true, decide_eq_true_eq] at hcase
              obtain ⟨te, rule, s2⟩ := hlc X G ER W k g q x p i spos me mt'.1 hcase.1 hn hcase.2
              exact asg_name (s2 σ S r Γ1 t1 o) hc.1 hc.2 rule
        · simp only [Bool.and_eq_true] at hcase
          exact asg_plain g s1 mt hc.1 hc.2 fun gg pg => ps_asg pe_we pg (swapsSole_plain hcase.1) (swapped_notTup hcase.2) (meT_each mt)
      · cases ht
end
end OI
set_option maxRecDepth 100000
set_option maxHeartbeats 4000000
/-! OI32: several assignments keep what the interpreter says. -/
namespace OI
open PySem PySem.Spec PyProof.Rows L2
section
variable {T : List FnA} {X : Cx} {K : PySem.W.Frag} {c : Lp} {σ σ' σ2 σ0 : St} {S S' S2 S0 : ASt} {M M' : List Nat} {H H' : Hp} {Z : Addr → Prop}
theorem meT_nm {N : List Str} {sc : Scope} {i : Nat} {e : Expr} (h : meT N sc (.nm i) e = true) : ∃ x pos, e = .Name x pos ∧ N[i]? = some x := by
  cases e <;> simp only [meT, Bool.false_eq_true] at h
  simp only [Bool.and_eq_true, decide_eq_true_eq] at h
  exact ⟨_, _, rfl, h.1⟩
theorem len2 {α : Type} {l : List α} (h : l.length = 2) : ∃ a b, l = [a, b] := by
  match l, h with
  | [a, b], _ => exact ⟨a, b, rfl⟩
theorem len3 {α : Type} {l : List α} (h : l.length = 3) : ∃ a b c, l = [a, b, c] := by
  match l, h with
  | [a, b, c], _ => exact ⟨a, b, c, rfl⟩
theorem me_par {N : List Str} {sc : Scope} {is : List Nat} {es : List E} {s : Stmt} (he : meS T N sc (.par is es) s = true) : ∃ ts k1 p1 qs k2 p2 spos, s = .Assign [.Tuple ts k1 p1] (.Tuple qs k2 p2) spos ∧ is.length = ts.length ∧ meTs N sc (is.map .nm) ts = true ∧ meEs T N sc es qs = true ∧
    ((swapNs sc ts qs = true ∧ (ts.length = 2 ∨ ts.length = 3)) ∨ plainNs sc ts qs = true) := by
  simp only [meS] at he
  split at he
  · rename_i ts k1 p1 qs k2 p2 spos
    simp only [Bool.and_eq_true, Bool.or_eq_true, decide_eq_true_eq, beq_iff_eq] at he
    obtain ⟨⟨⟨h1, h2⟩, h3⟩, h4⟩ := he
    exact ⟨ts, k1, p1, qs, k2, p2, spos, rfl, h1, h2, h3, h4⟩
  · cases he
/-- several names at once -/
theorem snd_par {is : List Nat} {es : List E} (hs : ∀ e ∈ es, SndE T e) : SndS T (.par is es) := by
  have ih := snds_iff.mp (snds_of hs)
  intro X G ER W k g s he c σ S tr ht o
  obtain ⟨ts, k1, p1, qs, k2, p2, spos, rfl, hlen, mt, me, hcase⟩ := me_par he
  · simp only [typS] at ht
    cases t1 : typEs T es S.G with
    | none => simp [t1] at ht
    | some p1 =>
      obtain ⟨rs, Γ1⟩ := p1
      simp only [t1] at ht
      split at ht
      · rename_i hc
        cases ht
        simp only [Bool.and_eq_true, decide_eq_true_eq] at hc
        obtain ⟨⟨hn, hl2⟩, htg⟩ := hc
        have s1 := ih X G ER W k g.toGood qs me σ S rs Γ1 t1 o
        have hM : ∀ i ∈ tchEs es, i ∈ tchS (.par is es) := fun i hi => by simp only [tchS]; exact List.mem_append_right _ hi
        -- behind the values
        have fin : ∀ vs env1 (D : Ends), FlowW X.K c (tchS (.par is es)) σ S (some (parT is rs Γ1)) D (.next (setVs env1 is vs)) → ∀ S1 ws Fl, Gots X.K σ (tchEs es) S env1 Γ1 rs vs S1 ws Fl → D.nx (setAll σ is ws) S1.H ∧ ∀ p u, S1.H p = none → D.nx (setAll σ is ws) (upd S1.H p u) := by
          intro vs env1 D hD S1 ws Fl g1
          have tms := g1.tmps
          have g0 : SGot X.K c (tchS (.par is es)) σ S env1 Γ1 σ S1 := (SGot.stepd ⟨g1.env, g1.g, g1.stp, g1.ok⟩).mono hM
          have new : ∀ G ∈ Fl, ∀ a ∈ G, S.H a = none ∨ Wr (tchS (.par is es)) S a := by
            intro L hL a ha
            obtain ⟨j, hj⟩ := List.mem_iff_getElem?.mp hL
            obtain ⟨r', v', w', hr', _, _, _⟩ := tms.all j L hj
            have : r'.2 = none := by simpa using List.all_eq_true.mp hn r' (List.mem_of_getElem? hr')
            exact (g1.new j r' L hr' hj this a ha).imp id fun ⟨i, m, z⟩ => ⟨i, hM i m, z⟩
          have his : ∀ S1 : ASt, S1.G = Γ1 → ∀ i ∈ is, i ∈ tchS (.par is es) ∧ c.io ≠ some i ∧ i < S1.G.length := fun S1 e i hi => ⟨by simp only [tchS]; exact List.mem_append_left _ hi, ((tgOk_ok htg).2 i hi).2, by rw [e]; exact ((tgOk_ok htg).2 i hi).1⟩
          refine ⟨?_, fun p u hp => ?_⟩
          · obtain ⟨S2, b1, b2⟩ := g0.puts tms hn hl2 (his S1 g1.g) new
            rw [g1.env, g1.g] at b2
            rw [← b1]
            exact hD _ _ S2 rfl b2
          · have ga : SGot X.K c (tchS (.par is es)) σ S env1 Γ1 σ (S1.atH (upd S1.H p u)) := ⟨g0.env, g0.g, g0.stp.trans (.alloc hp), g0.ok.alloc hp, rfl, fun _ _ => rfl, fun _ _ => rfl⟩
            have tms2 : Tmps X.K (S1.atH (upd S1.H p u)) rs vs ws Fl := by
              have : ∀ {rs : List TR} {vs : List PV} {ws : List V} {Fl : List (List Addr)}, Tmps X.K S1 rs vs ws Fl → rs.all (·.2.isNone) = true → Tmps X.K (S1.atH (upd S1.H p u)) rs vs ws Fl := by
                intro rs vs ws Fl h
                induction h with
                | nil => intro _; exact .nil
                | cons t _ d ih =>
                  intro hn
                  simp only [List.all_cons, Bool.and_eq_true, Option.isNone_iff_eq_none] at hn
                  exact .cons (t.step (M := []) g1.ok (.alloc hp) fun x e => by simp) (ih hn.2) d
              exact this tms hn
            obtain ⟨S2, b1, b2⟩ := ga.puts tms2 hn hl2 (his _ g1.g) new
            have e1 : (S1.atH (upd S1.H p u)).env = env1 := g1.env
            have e2 : (S1.atH (upd S1.H p u)).G = Γ1 := g1.g
            rw [e1, e2] at b2
            show D.nx _ (S1.atH (upd S1.H p u)).H
            rw [← b1]
            exact hD _ _ S2 rfl b2
        have hsw : ∀ {l : Nat}, swapsWithSole [.Tuple ts k1 p1] (.Tuple qs k2 p2) l X.env = pure false := rfl
        -- by which rule
        have run : ∀ D : Ends, WL X qs σ S.H (fun ws H1 => ws.length = qs.length ∧ D.nx (setAll σ is ws) H1 ∧ ∀ p u, H1 p = none → D.nx (setAll σ is ws) (upd H1 p u)) → WS X (.Assign [.Tuple ts k1 p1] (.Tuple qs k2 p2) spos) D σ S.H := by
          intro D h
          rcases hcase with ⟨hsn, hlen23⟩ | hpl
          · have hql : qs.length = ts.length := by simp only [swapNs, Bool.and_eq_true, decide_eq_true_eq] at hsn; exact hsn.1.1.1.1.1
            rcases hlen23 with e2 | e3
            · · obtain ⟨ta, tb, ets⟩ := len2 e2
                obtain ⟨a, b, eqs⟩ := len2 (hql.trans e2)
                obtain ⟨i, j, eis⟩ := len2 (hlen.trans e2)
                subst ets eqs eis
                clear fin s1 ih
                simp only [List.map_cons, List.map_nil, meTs, Bool.and_true, Bool.and_eq_true] at mt
                obtain ⟨x, px, rfl, m1⟩ := meT_nm mt.1
                obtain ⟨y, py, rfl, m2⟩ := meT_nm mt.2
                obtain ⟨q1, q2, q3, q4⟩ := swapped_two (k1 := k1) (k2 := k2) (p1 := p1) (p2 := p2) hsn g.kind
                have hij : i ≠ j := fun e => by subst e; rw [m1] at m2; exact q2 (Option.some.inj m2)
                refine .of (ps_par g.calm g.nd m1 m2 hij q3 q4 (pa_wl (meEs_plain me)) q1 rfl) ?_
                refine wl_imp h fun ws H1 ⟨hwl, q, _⟩ => ?_
                obtain ⟨v, w, e⟩ := len2 hwl
                subst e
                exact ⟨v, w, rfl, q⟩
            · · obtain ⟨ta, tb, tc, ets⟩ := len3 e3
                obtain ⟨a, b, d, eqs⟩ := len3 (hql.trans e3)
                obtain ⟨i, j, l, eis⟩ := len3 (hlen.trans e3)
                subst ets eqs eis
                clear fin s1 ih
                simp only [List.map_cons, List.map_nil, meTs, Bool.and_true, Bool.and_eq_true] at mt
                obtain ⟨x, px, rfl, m1⟩ := meT_nm mt.1
                obtain ⟨y, py, rfl, m2⟩ := meT_nm mt.2.1
                obtain ⟨z, pz, rfl, m3⟩ := meT_nm mt.2.2
                obtain ⟨q1, ⟨n1, n2, n3⟩, q3, q4, q5⟩ := swapped_three (k1 := k1) (k2 := k2) (p1 := p1) (p2 := p2) hsn g.kind
                have hij : i ≠ j := fun e => by subst e; rw [m1] at m2; exact n1 (Option.some.inj m2)
                have hil : i ≠ l := fun e => by subst e; rw [m1] at m3; exact n2 (Option.some.inj m3)
                have hjl : j ≠ l := fun e => by subst e; rw [m2] at m3; exact n3 (Option.some.inj m3)
                refine .of (ps_par3 g.calm g.nd m1 m2 m3 hij hil hjl q3 q4 q5 (pa_wl (meEs_plain me)) q1 rfl) ?_
                refine wl_imp h fun ws H1 ⟨hwl, q, _⟩ => ?_
                obtain ⟨u, v, w, e⟩ := len3 hwl
                subst e
                exact ⟨u, v, w, rfl, q⟩
          · have hql : qs.length = ts.length := by simp only [plainNs, Bool.and_eq_true, decide_eq_true_eq] at hpl; exact hpl.1.1.1
            obtain ⟨pl1, pl2, _⟩ := meTs_plain mt X.env
            have hq : qs.length ≤ sizeLine := by
              simp only [plainNs, Bool.and_eq_true, decide_eq_true_eq] at hpl
              rw [sizeLine_eq]
              have := hpl.1.1.2
              omega
            refine .of (ps_asg (pe_tup (pa_wl (meEs_plain me))) (pg_tup g.calm (pgs_names g.nd (storeOk_def g.fn) mt) pl1 pl2) rfl (swapped_plain hpl g.kind) rfl) ?_
            refine wl_imp h fun ws H1 ⟨hwl, _, q⟩ => ⟨?_, fun p hp => ⟨p, ws, rfl, .of upd_same, by rw [hwl, hql], gNs_of (by rw [hlen, ← hql, hwl]) (q p _ hp)⟩⟩
            rw [hwl]; exact hq
        refine ⟨fun f ev D hD => ?_, fun x ev D hx => ?_⟩
        · simp only [evalS, Res.bind_ok, Res.ok.injEq] at ev
          obtain ⟨⟨vs, env1⟩, ev, rfl⟩ := ev
          refine run D (wl_imp (wl_len (s1.ok vs env1 ev (fun ws H1 => D.nx (setAll σ is ws) H1 ∧ ∀ p u, H1 p = none → D.nx (setAll σ is ws) (upd H1 p u)) fun S1 ws Fl g1 => fin vs env1 D hD S1 ws Fl g1)) fun ws H1 h => h)
        · simp only [evalS, Res.bind_exc] at ev
          rcases ev with ev | ⟨_, _, ev⟩
          · exact run D (s1.exc x ev _ (hx.xw.mono hM))
          · cases ev
      · cases ht
end
end OI
set_option maxRecDepth 100000
set_option maxHeartbeats 4000000
/-! OI33: x op= e, blocks, if, while. -/
namespace OI
open PySem PySem.Spec PyProof.Rows L2
section
variable {T : List FnA} {X : Cx} {K : PySem.W.Frag} {c : Lp} {σ σ' σ2 σ0 : St} {S S' S2 S0 : ASt} {M M' : List Nat} {H H' : Hp} {Z : Addr → Prop}
def IpAny (X : Cx) (op : Operator) : TIp := fun x y H Q => ∃ r, PIp X op r ∧ r x y H Q
theorem ipAny {op : Operator} : PIp X op (IpAny X op) := fun pins s σ H x y v u Q I rx ry ⟨r, o, q⟩ => o pins s σ H x y v u Q I rx ry q
theorem Top.intI {i : Int} {w : V} (h : Top K H (.int i) w) : w = .int i := by cases h; rfl
theorem Top.strI {i : Str} {w : V} (h : Top K H (.str i) w) : w = .str i := by cases h; rfl
theorem aug_val {op : Operator} {a b v : PV} {x y : V} (hv : augP op a b = .ok v) (ha : Top X.K H a x) (hb : Top X.K H b y) : ∃ z, (∀ (H' : Hp) (Z : Addr → Prop) (d : Nat), Rep X.K H' Z d v z []) ∧ clean 1 v = true ∧ ∀ Q : VK, Q z H → IpAny X op x y H Q := by
  cases op <;> cases a <;> cases b <;> simp only [augP, reduceCtorEq] at hv
  · rw [ha.intI, hb.intI]
    cases hv
    exact ⟨_, fun _ _ _ => .int _, rfl, fun Q q => ⟨_, iop_add, _, _, rfl, rfl, q⟩⟩
  · rw [ha.strI, hb.strI]
    obtain ⟨hz, hv⟩ := need_ok.mp hv
    cases hv
    exact ⟨_, fun _ _ _ => .str _, rfl, fun Q q => ⟨_, iop_add_str, _, _, rfl, rfl, by rw [sizeLine_eq]; exact hz, q⟩⟩
  · rw [ha.intI, hb.intI]
    cases hv
    exact ⟨_, fun _ _ _ => .int _, rfl, fun Q q => ⟨_, iop_sub, _, _, rfl, rfl, q⟩⟩
  · rw [ha.intI, hb.intI]
    obtain ⟨hz, hv⟩ := need_ok.mp hv
    cases hv
    exact ⟨_, fun _ _ _ => .int _, rfl, fun Q q => ⟨_, iop_mul, _, _, rfl, rfl, hz, q⟩⟩
theorem augP_exc {op : Operator} {a b x : PV} : augP op a b ≠ .exc x := by
  cases op <;> cases a <;> cases b <;> simp [augP, need] <;> split <;> simp
theorem snd_aug {i : Nat} {op : Operator} {e : E} (h : SndE T e) : SndS T (.aug i op e) := by
  have ih := snd_iff.mp h
  intro X G ER W k g s he c σ S tr ht o
  cases s <;> simp only [meS, Bool.false_eq_true] at he
  rename_i tg op' q spos
  cases tg <;> simp only [Bool.false_eq_true] at he
  rename_i x p
  simp only [Bool.and_eq_true, decide_eq_true_eq] at he
  obtain ⟨⟨⟨⟨rfl, hi⟩, hloc⟩, hpl⟩, me⟩ := he
  simp only [typS] at ht
  cases t1 : typE T e S.G with
  | none => simp [t1] at ht
  | some p1 =>
    obtain ⟨r, Γ1⟩ := p1
    simp only [t1] at ht
    split at ht
    · rename_i r' Γ2 τ hp hg
      cases hp
      split at ht
      · rename_i hc
        cases ht
        simp only [Bool.and_eq_true, Bool.not_eq_true'] at hc
        have hni : i ∉ tchE e := fun hm => by have := List.contains_iff_mem.mpr hm; rw [hc.1] at this; cases this
        have s1 := ih X G ER W k g.toGood q me σ S r Γ1 t1 o
        have rule : PS X (.AugAssign (.Name x p) op q spos) (tAug i (WE X q) (IpAny X op)) := ps_aug g.nd hi (locB_ok hloc) pe_we ipAny (.inl (g.fn x))
        have hM : ∀ j ∈ tchE e, j ∈ tchS (.aug i op e) := fun j hj => by simp only [tchS]; exact List.mem_cons_of_mem _ hj
        refine ⟨fun f ev D hD => ?_, fun y ev D hx => ?_⟩
        · simp only [evalS, Res.bind_ok, Res.ok.injEq] at ev
          obtain ⟨a, ha, ⟨v, env1⟩, ev, z, hz, rfl⟩ := ev
          have ha := getV_ok.mp ha
          obtain ⟨wa, ewa, rpa⟩ := o.slot i τ a (gat_some hg) ha
          refine .of rule ⟨wa, ewa, s1.ok v env1 ev _ fun S1 w F g1 => ?_⟩
          -- the old value still lies there
          have ap : ∀ b ∈ S.Fs i, ¬ Wr (tchE e) S b := fun b hb ⟨j, m, q⟩ => o.apart i j (fun e => hni (e ▸ m)) b hb q
          have rpa1 := rpa.keep g1.stp.keep ap o.zW g1.stp.z
          obtain ⟨wz, rz, cz, hq⟩ := aug_val (X := X) hz rpa1.top g1.tmp.rep.top
          refine hq _ ?_
          obtain ⟨t1, t2⟩ := (tgOk_ok hc.2).2 i (by simp)
          obtain ⟨S', a1, a2, a3, a4⟩ := (SGot.ofGot (c := c) g1 hM).put (i := i) (τ := .cl) (v := z) (w := wz) (F := []) (by simp [tchS]) t2 (by rw [g1.g]; exact t1) ⟨⟨rfl, ⟨1, cz⟩, rz _ _ _⟩, fun _ _ _ h => (nomatch h), fun _ h => (nomatch h), fun _ h => (nomatch h)⟩ fun _ h => nomatch h
          rw [← a1]
          rw [g1.env, g1.g] at a4
          exact hD _ _ S' rfl a4
        · simp only [evalS, Res.bind_exc] at ev
          rcases ev with ev | ⟨a, ha, ev | ⟨_, _, ev | ⟨_, _, ev⟩⟩⟩
          · exact absurd ev getV_exc
          · have ha := getV_ok.mp ha
            obtain ⟨wa, ewa, rpa⟩ := o.slot i τ a (gat_some hg) ha
            exact .of rule ⟨wa, ewa, s1.exc y ev _ (hx.xw.mono hM)⟩
          · exact absurd ev augP_exc
          · cases ev
      · cases ht
    · cases ht
/-! ### blocks -/
theorem joinR_none {ws : List (Nat × Gt)} {a b : Option (List Gt)} (h : joinR ws a b = some none) : a = none ∧ b = none := by
  unfold joinR at h
  split at h
  · exact ⟨rfl, rfl⟩
  · simp at h
  · simp at h
  · split at h
    · split at h <;> simp at h
    · cases h
mutual
theorem typS_none {T : List FnA} {c : Lp} {G : Ctx} : ∀ (s : OI.S) (Γ : List Gt) (env env' : OI.Env), typS T c s Γ = some none → evalS G s env ≠ .ok (.next env')
  | .expr e, Γ, env, env', h => by simp [typS] at h
  | .asg t e, Γ, env, env', h => by
    simp only [typS] at h
    split at h
    · split at h <;> cases h
    · cases h
  | .par is es, Γ, env, env', h => by
    simp only [typS] at h
    split at h
    · split at h <;> cases h
    · cases h
  | .pass, Γ, env, env', h => by simp [typS] at h
  | .brk, Γ, env, env', h => by simp [evalS]
  | .cnt, Γ, env, env', h => by simp [evalS]
  | .ret e, Γ, env, env', h => by simp [evalS, Res.bind_ok]
  | .retN, Γ, env, env', h => by simp [evalS]
  | .als y x ks, Γ, env, env', h => by
    simp only [typS] at h
    split at h
    · split at h <;> cases h
    · cases h
  | .set p ks e, Γ, env, env', h => by
    simp only [typS] at h
    split at h
    · split at h
      · split at h <;> cases h
      · cases h
    · cases h
  | .aug i op e, Γ, env, env', h => by
    simp only [typS] at h
    split at h
    · split at h <;> cases h
    · cases h
  | .augI p ks op e, Γ, env, env', h => by
    simp only [typS] at h
    split at h
    · split at h
      · split at h <;> cases h
      · cases h
    · cases h
  | .del p ks, Γ, env, env', h => by
    simp only [typS] at h
    split at h
    · split at h <;> cases h
    · cases h
  | .ite ws e a b, Γ, env, env', h => by
    simp only [typS] at h
    split at h
    · split at h
      · rename_i ra rb ha hb
        obtain ⟨rfl, rfl⟩ := joinR_none h
        simp only [evalS]
        intro ev
        obtain ⟨r, _, ev⟩ := Res.bind_ok.mp ev
        obtain ⟨t, _, ev⟩ := Res.bind_ok.mp ev
        split at ev
        · exact typSs_none a _ _ _ ha ev
        · exact typSs_none b _ _ _ hb ev
      · cases h
    · cases h
  | .whl ws e b, Γ, env, env', h => by
    simp only [typS] at h
    split at h
    · split at h
      · split at h
        · split at h
          · split at h <;> cases h
          · cases h
        · cases h
      · cases h
    · cases h
  | .for_ ws t it b, Γ, env, env', h => by
    simp only [typS] at h
    split at h
    · split at h
      · split at h
        · split at h
          · split at h <;> cases h
          · cases h
        · cases h
      · cases h
    · cases h
  | .raise n args, Γ, env, env', h => by
    simp only [evalS]
    intro ev
    obtain ⟨r, _, ev⟩ := Res.bind_ok.mp ev
    obtain ⟨_, ev⟩ := need_ok.mp ev
    cases ev
  | .try_ ws b hs, Γ, env, env', h => by
    simp only [typS] at h
    split at h
    · rename_i rb rh hb hh
      obtain ⟨rfl, rfl⟩ := joinR_none h
      simp only [evalS]
      intro ev
      split at ev
      · rename_i f hf
        cases ev
        exact typSs_none b _ _ _ hb hf
      · cases ev
      · rename_i x hx
        exact typHs_none hs x _ _ _ hh ev
    · cases h
  | .hnd _ _ _, Γ, env, env', h => by simp [evalS]
theorem typSs_none {T : List FnA} {c : Lp} {G : Ctx} : ∀ (s : List OI.S) (Γ : List Gt) (env env' : OI.Env), typSs T c s Γ = some none → evalSs G s env ≠ .ok (.next env')
  | [], Γ, env, env', h => by simp [typSs] at h
  | s :: ss, Γ, env, env', h => by
    simp only [typSs] at h
    simp only [evalSs]
    intro ev
    obtain ⟨f, ev1, ev2⟩ := Res.bind_ok.mp ev
    split at h
    · cases f <;> simp only [Res.ok.injEq, reduceCtorEq] at ev2
      exact typSs_none ss _ _ _ h ev2
    · rename_i h1
      cases f <;> simp only [Res.ok.injEq, reduceCtorEq] at ev2
      exact typS_none s _ _ _ h1 ev1
    · cases h
theorem typHs_none {T : List FnA} {c : Lp} {G : Ctx} : ∀ (s : List OI.S) (x : PV) (Γ : List Gt) (env env' : OI.Env), typHs T c s Γ = some none → evalH G x s env ≠ .ok (.next env')
  | [], x, Γ, env, env', h => by simp [evalH]
  | .hnd cls nm b :: hs, x, Γ, env, env', h => by
    simp only [typHs] at h
    simp only [evalH]
    intro ev
    have hb : typSs T c b (hndT nm Γ) = some none ∧ typHs T c hs Γ = some none := by
      split at h
      · cases h; exact ⟨by assumption, by assumption⟩
      · cases h; exact ⟨by assumption, by assumption⟩
      · split at h <;> cases h
      · cases h
    cases x <;> simp only [reduceCtorEq] at ev
    split at ev
    · exact typSs_none b _ _ _ hb.1 ev
    · exact typHs_none hs _ _ _ _ hb.2 ev
  | .expr _ :: _, x, Γ, env, env', h => by simp [evalH]
  | .asg _ _ :: _, x, Γ, env, env', h => by simp [evalH]
  | .par _ _ :: _, x, Γ, env, env', h => by simp [evalH]
  | .pass :: _, x, Γ, env, env', h => by simp [evalH]
  | .brk :: _, x, Γ, env, env', h => by simp [evalH]
  | .cnt :: _, x, Γ, env, env', h => by simp [evalH]
  | .ret _ :: _, x, Γ, env, env', h => by simp [evalH]
  | .retN :: _, x, Γ, env, env', h => by simp [evalH]
  | .als _ _ _ :: _, x, Γ, env, env', h => by simp [evalH]
  | .set _ _ _ :: _, x, Γ, env, env', h => by simp [evalH]
  | .aug _ _ _ :: _, x, Γ, env, env', h => by simp [evalH]
  | .augI _ _ _ _ :: _, x, Γ, env, env', h => by simp [evalH]
  | .del _ _ :: _, x, Γ, env, env', h => by simp [evalH]
  | .ite _ _ _ _ :: _, x, Γ, env, env', h => by simp [evalH]
  | .whl _ _ _ :: _, x, Γ, env, env', h => by simp [evalH]
  | .for_ _ _ _ _ :: _, x, Γ, env, env', h => by simp [evalH]
  | .raise _ _ :: _, x, Γ, env, env', h => by simp [evalH]
  | .try_ _ _ _ :: _, x, Γ, env, env', h => by simp [evalH]
end
theorem snds_nil : SndSs T [] := by
  intro X G ER W k g s he c σ S tr ht o
  cases s <;> simp only [meSs, Bool.false_eq_true] at he
  simp only [typSs, Option.some.injEq] at ht
  subst ht
  refine ⟨fun f ev D hD => ?_, fun x ev D hx => ?_⟩
  · simp only [evalSs, Res.ok.injEq] at ev
    subst ev
    exact .of pss_nil (hD S.G σ S rfl (.refl o))
  · simp [evalSs] at ev
theorem FlowW.mono {tr tr' : Option (List Gt)} {D : Ends} {f : Flow} (hs : ∀ i ∈ M', i ∈ M) (h : FlowW K c M σ S tr D f) (ht : ∀ env Γ', f = .next env → tr' = some Γ' → tr = some Γ') : FlowW K c M' σ S tr' D f := by
  cases f with
  | next env' => exact fun Γ' σ2 S2 e g2 => h Γ' σ2 S2 (ht env' Γ' rfl e) (g2.mono hs)
  | brk env' => exact fun Γh Γ' σ2 S2 e1 e2 g2 => h Γh Γ' σ2 S2 e1 e2 (g2.mono hs)
  | cnt env' => exact fun Γh Γ' σ2 S2 e1 e2 g2 => h Γh Γ' σ2 S2 e1 e2 (g2.mono hs)
  | ret v env' => exact fun r Γ' σ2 S2 w F e1 e2 g2 tm hn => h r Γ' σ2 S2 w F e1 e2 (g2.mono hs) tm fun a ha => (hn a ha).imp id fun ⟨i, m, z⟩ => ⟨i, hs i m, z⟩
theorem snds_cons {s' : OI.S} {ss' : List OI.S} (h1 : SndS T s') (h2 : SndSs T ss') : SndSs T (s' :: ss') := by
  intro X G ER W k g s he c σ S tr ht o
  cases s with
  | nil => simp [meSs] at he
  | cons s ss =>
    simp only [meSs, Bool.and_eq_true] at he
    have m1 : ∀ i ∈ tchS s', i ∈ tchSs (s' :: ss') := fun i hi => by simp only [tchSs]; exact List.mem_append_left _ hi
    have m2 : ∀ i ∈ tchSs ss', i ∈ tchSs (s' :: ss') := fun i hi => by simp only [tchSs]; exact List.mem_append_right _ hi
    simp only [typSs] at ht
    cases t1 : typS T c s' S.G with
    | none => simp [t1] at ht
    | some tr1 =>
      have s1 := h1 X G ER W k g s he.1 c σ S tr1 t1 o
      have rule : PSs X (s :: ss) (tSeq (WS X s) (WSs X ss)) := pss_cons ps_ws pss_ws
      -- a flow that does not go on
      have out : ∀ (f : Flow) (D : Ends), (∀ e, f ≠ .next e) → evalS G s' S.env = .ok f → FlowW X.K c (tchSs (s' :: ss')) σ S tr D f → WSs X (s :: ss) D σ S.H := fun f D hf ev hD =>
        .of rule (s1.ok f ev _ (by
          have := FlowW.mono (M' := tchS s') (tr' := tr1) m1 hD (fun env Γ' e => absurd e (hf env))
          cases f with
          | next e => exact absurd rfl (hf e)
          | brk e => exact this
          | cnt e => exact this
          | ret v e => exact this))
      refine ⟨fun f ev D hD => ?_, fun x ev D hx => ?_⟩
      · simp only [evalSs] at ev
        obtain ⟨f1, ev1, ev2⟩ := Res.bind_ok.mp ev
        cases f1 with
        | next e1 =>
          cases tr1 with
          | none => exact absurd ev1 (typS_none s' _ _ _ t1)
          | some Γ1 =>
            simp only [t1] at ht
            refine .of rule (s1.ok _ ev1 _ fun Γ' σ' S' e g1 => ?_)
            cases e
            have s2 := h2 X G ER W k g ss he.2 c σ' S' tr (by rw [g1.g]; exact ht) g1.ok
            exact s2.ok f (by rw [g1.env]; exact ev2) _ (FlowW.step (g1.mono m1) m2 hD)
        | brk e1 =>
          simp only [Res.ok.injEq] at ev2
          subst ev2
          exact out _ D (fun _ h => by cases h) ev1 hD
        | cnt e1 =>
          simp only [Res.ok.injEq] at ev2
          subst ev2
          exact out _ D (fun _ h => by cases h) ev1 hD
        | ret v e1 =>
          simp only [Res.ok.injEq] at ev2
          subst ev2
          exact out _ D (fun _ h => by cases h) ev1 hD
      · simp only [evalSs] at ev
        rcases Res.bind_exc.mp ev with ev | ⟨f1, ev1, ev2⟩
        · exact .of rule (s1.exc x ev _ (hx.mono m1))
        · cases f1 <;> simp only [reduceCtorEq] at ev2
          rename_i e1
          cases tr1 with
          | none => exact absurd ev1 (typS_none s' _ _ _ t1)
          | some Γ1 =>
            simp only [t1] at ht
            refine .of rule (s1.ok _ ev1 _ fun Γ' σ' S' e g1 => ?_)
            cases e
            have s2 := h2 X G ER W k g ss he.2 c σ' S' tr (by rw [g1.g]; exact ht) g1.ok
            exact s2.exc x (by rw [g1.env]; exact ev2) _ (hx.step (g1.stp.mono m1) g1.len (fun i hi => g1.sig i fun m => hi (m1 i m)) m2)
end
end OI
set_option maxRecDepth 100000
set_option maxHeartbeats 4000000
/-! OI34: if, while. -/
namespace OI
open PySem PySem.Spec PyProof.Rows L2
section
variable {T : List FnA} {X : Cx} {K : PySem.W.Frag} {c : Lp} {σ σ' σ2 σ0 : St} {S S' S2 S0 : ASt} {M M' : List Nat} {H H' : Hp} {Z : Addr → Prop}
theorem joinR_left {ws : List (Nat × Gt)} {a : List Gt} {rb tr : Option (List Gt)} (h : joinR ws (some a) rb = some tr) : ∃ Γf, wk ws a = some Γf ∧ tr = some Γf := by
  unfold joinR at h
  split at h <;> rename_i e1 <;> try (cases e1; done)
  · cases e1
    obtain ⟨Γf, h1, h2⟩ := Option.map_eq_some_iff.mp h
    exact ⟨Γf, h1, h2.symm⟩
  · cases e1
    split at h
    · split at h
      · cases h; exact ⟨_, by assumption, rfl⟩
      · cases h
    · cases h
theorem joinR_right {ws : List (Nat × Gt)} {b : List Gt} {ra tr : Option (List Gt)} (h : joinR ws ra (some b) = some tr) : ∃ Γf, wk ws b = some Γf ∧ tr = some Γf := by
  unfold joinR at h
  split at h <;> rename_i e1 <;> try (cases e1; done)
  · cases e1
    obtain ⟨Γf, h1, h2⟩ := Option.map_eq_some_iff.mp h
    exact ⟨Γf, h1, h2.symm⟩
  · cases e1
    split at h
    · rename_i a' b' ha hb
      split at h
      · rename_i e; cases h; exact ⟨_, by rw [e]; exact hb, rfl⟩
      · cases h
    · cases h
/-- a branch's flow -/
theorem FlowW.branch {ws : List (Nat × Gt)} {ra tr : Option (List Gt)} {D : Ends} {f : Flow} (hw : ∀ i ∈ ws.map (·.1), i ∈ M) (hj : ∀ a, ra = some a → ∃ Γf, wk ws a = some Γf ∧ tr = some Γf) (h : FlowW K c M σ S tr D f) : FlowW K c M σ S ra D f := by
  cases f with
  | next env' =>
    intro Γ' σ2 S2 e g2
    obtain ⟨Γf, h1, h2⟩ := hj Γ' e
    obtain ⟨S3, a1, a2⟩ := g2.wk h1 hw
    rw [← a1]
    exact h Γf σ2 S3 h2 a2
  | brk env' => exact h
  | cnt env' => exact h
  | ret v env' => exact h
theorem snd_site {ws : List (Nat × Gt)} {e : E} {a b : List OI.S} (hc : SndT T e) (ha : SndSs T a) (hb : SndSs T b) : SndS T (.ite ws e a b) := by
  intro X G ER W k g s he c σ S tr ht o
  cases s <;> simp only [meS, Bool.false_eq_true] at he
  rename_i q as bs spos
  simp only [Bool.and_eq_true] at he
  simp only [typS] at ht
  cases t1 : typE T e S.G with
  | none => simp [t1] at ht
  | some p1 =>
    obtain ⟨r, Γ0⟩ := p1
    simp only [t1] at ht
    split at ht
    · rename_i ra rb tA tB
      have s1 := hc X G ER W k g.toGood q he.1.1 σ S r Γ0 t1 o
      have rule : PS X (.If q as bs spos) (tIfS (WT X q) (WSs X as) (WSs X bs)) := ps_if pt_wt pss_ws pss_ws
      have m0 : ∀ i ∈ tchE e, i ∈ tchS (.ite ws e a b) := fun i hi => by simp only [tchS]; simp [hi]
      have m1 : ∀ i ∈ tchSs a, i ∈ tchS (.ite ws e a b) := fun i hi => by simp only [tchS]; simp [hi]
      have m2 : ∀ i ∈ tchSs b, i ∈ tchS (.ite ws e a b) := fun i hi => by simp only [tchS]; simp [hi]
      have mw : ∀ i ∈ ws.map (·.1), i ∈ tchS (.ite ws e a b) := fun i hi => by simp only [tchS]; exact List.mem_append_left _ hi
      -- behind the test
      have go : ∀ v env1 t (D : Ends), evalE G e S.env = .ok (v, env1) → truth v = .ok t → (∀ S1, SGot X.K c (tchS (.ite ws e a b)) σ S env1 Γ0 σ S1 → (if t = true then WSs X as D σ S1.H else WSs X bs D σ S1.H)) → WS X (.If q as bs spos) D σ S.H := by
        intro v env1 t D ev ht h
        exact .of rule (s1.ok v env1 t ev ht _ fun S1 g1 => h S1 ((SGot.stepd g1).mono m0))
      refine ⟨fun f ev D hD => ?_, fun x ev D hx => ?_⟩
      · simp only [evalS] at ev
        obtain ⟨⟨v, env1⟩, ev1, ev⟩ := Res.bind_ok.mp ev
        obtain ⟨t, htr, ev⟩ := Res.bind_ok.mp ev
        refine go v env1 t D ev1 htr fun S1 g1 => ?_
        cases t with
        | true =>
          rw [if_pos rfl] at ev ⊢
          have sA := ha X G ER W k g as he.1.2 c σ S1 ra (by rw [g1.g]; exact tA) g1.ok
          exact sA.ok f (by rw [g1.env]; exact ev) D (FlowW.step g1 m1 (hD.branch mw fun a' e => by subst e; exact joinR_left ht))
        | false =>
          rw [if_neg (by decide)] at ev ⊢
          have sB := hb X G ER W k g bs he.2 c σ S1 rb (by rw [g1.g]; exact tB) g1.ok
          exact sB.ok f (by rw [g1.env]; exact ev) D (FlowW.step g1 m2 (hD.branch mw fun a' e => by subst e; exact joinR_right ht))
      · simp only [evalS] at ev
        rcases Res.bind_exc.mp ev with ev | ⟨⟨v, env1⟩, ev1, ev⟩
        · exact .of rule (s1.exc x ev _ (hx.xw.mono m0))
        · rcases Res.bind_exc.mp ev with ev | ⟨t, htr, ev⟩
          · exact absurd ev truth_exc
          · refine go v env1 t D ev1 htr fun S1 g1 => ?_
            cases t with
            | true =>
              rw [if_pos rfl] at ev ⊢
              have sA := ha X G ER W k g as he.1.2 c σ S1 ra (by rw [g1.g]; exact tA) g1.ok
              exact sA.exc x (by rw [g1.env]; exact ev) D (hx.step g1.stp rfl (fun _ _ => rfl) m1)
            | false =>
              rw [if_neg (by decide)] at ev ⊢
              have sB := hb X G ER W k g bs he.2 c σ S1 rb (by rw [g1.g]; exact tB) g1.ok
              exact sB.exc x (by rw [g1.env]; exact ev) D (hx.step g1.stp rfl (fun _ _ => rfl) m2)
    · cases ht
/-- the flow of a loop's body -/
theorem FlowW.body {ws : List (Nat × Gt)} {Γh : List Gt} {trb tr : Option (List Gt)} {D : Ends} {N : St → Hp → Prop} {f1 : Flow} {e1 : OI.Env} {Γ1 : List Gt} (gs : SGot K c M σ0 S0 e1 Γ1 σ2 S2) (hm : ∀ i ∈ M', i ∈ M) (hw : ∀ i ∈ ws.map (·.1), i ∈ M) (hbk : backTo' ws Γh trb = true)
    (hN : ∀ e σ' S', (f1 = .next e ∨ f1 = .cnt e) → SGot K c M σ0 S0 e Γh σ' S' → N σ' S'.H) (hB : ∀ e σ' S', f1 = .brk e → SGot K c M σ0 S0 e Γh σ' S' → D.nx σ' S'.H) (hR : ∀ v e, f1 = .ret v e → FlowW K c M σ0 S0 tr D (.ret v e)) :
    FlowW K { c with lp := some Γh, lw := ws } M' σ2 S2 trb { D with nx := N, ct := N, bk := D.nx } f1 := by
  have up : ∀ {e : OI.Env} {Γ' : List Gt} {σ' : St} {S' : ASt}, SGot K { c with lp := some Γh, lw := ws } M' σ2 S2 e Γ' σ' S' → SGot K c M σ0 S0 e Γ' σ' S' := fun g =>
    gs.trans ((⟨g.env, g.g, g.stp, g.ok, g.len, g.sig, g.fix⟩ : SGot K c M' σ2 S2 _ _ _ _).mono hm)
  have weak : ∀ {e : OI.Env} {Γ' : List Gt} {σ' : St} {S' : ASt}, SGot K { c with lp := some Γh, lw := ws } M' σ2 S2 e Γ' σ' S' → wk ws Γ' = some Γh → ∃ S3, S3.H = S'.H ∧ SGot K c M σ0 S0 e Γh σ' S3 := fun g h => (up g).wk h hw
  cases f1 with
  | next e =>
    intro Γ' σ' S' et g
    subst et
    have h : wk ws Γ' = some Γh := by simpa [backTo'] using hbk
    obtain ⟨S3, a1, a2⟩ := weak g h
    show N σ' S'.H
    rw [← a1]
    exact hN e σ' S3 (.inl rfl) a2
  | cnt e =>
    intro Γh' Γ' σ' S' e1 e2 g
    cases e1
    obtain ⟨S3, a1, a2⟩ := weak g e2
    show N σ' S'.H
    rw [← a1]
    exact hN e σ' S3 (.inr rfl) a2
  | brk e =>
    intro Γh' Γ' σ' S' e1 e2 g
    cases e1
    obtain ⟨S3, a1, a2⟩ := weak g e2
    show D.nx σ' S'.H
    rw [← a1]
    exact hB e σ' S3 rfl a2
  | ret v e =>
    intro r Γ' σ' S' w F e1 e2 g tm hn
    refine hR v e rfl r Γ' σ' S' w F e1 e2 (up g) tm fun a ha => ?_
    rcases hn a ha with z | ⟨i, m, z⟩
    · refine .inl ?_
      cases q : S0.H a with
      | none => rfl
      | some u => exact absurd z (gs.stp.live a (by simp [q]))
    · rcases gs.stp.fnew i a z with z | z | z
      · exact .inr ⟨i, hm i m, z⟩
      · exact .inl z
      · exact .inr z
theorem whileR_some {cE : OI.Env → Res (Bool × OI.Env)} {bE : OI.Env → Res Flow} {env : OI.Env} {r : Res Flow} (h : whileR cE bE env = r) (hr : r ≠ .stuck) : ∃ n, loopN cE bE n env = some r := by
  unfold whileR at h
  split at h
  · rename_i hx
    obtain ⟨n, hn⟩ := hx.choose_spec
    exact ⟨n, h ▸ hn⟩
  · exact absurd h.symm hr
theorem snd_whl {ws : List (Nat × Gt)} {e : E} {b : List OI.S} (hc : SndT T e) (hb : SndSs T b) : SndS T (.whl ws e b) := by
  intro X G ER W k g s he c σ S tr ht o
  cases s <;> simp only [meS, Bool.false_eq_true] at he
  rename_i q bs oe spos
  cases oe with
  | cons _ _ => simp at he
  | nil =>
  simp only [Bool.and_eq_true] at he
  simp only [typS] at ht
  cases t0 : wk ws S.G with
  | none => simp [t0] at ht
  | some Γh =>
    simp only [t0] at ht
    cases t1 : typE T e Γh with
    | none => simp [t1] at ht
    | some p1 =>
      obtain ⟨r, Γ1⟩ := p1
      simp only [t1] at ht
      split at ht
      · rename_i eΓ
        subst eΓ
        split at ht
        · rename_i rb tB
          split at ht
          · rename_i hbk
            cases ht
            have m0 : ∀ i ∈ tchE e, i ∈ tchS (.whl ws e b) := fun i hi => by simp only [tchS]; simp [hi]
            have m1 : ∀ i ∈ tchSs b, i ∈ tchS (.whl ws e b) := fun i hi => by simp only [tchS]; simp [hi]
            have mw : ∀ i ∈ ws.map (·.1), i ∈ tchS (.whl ws e b) := fun i hi => by simp only [tchS]; exact List.mem_append_left _ hi
            have rule : PS X (.While q bs [] spos) (tWhile (WT X q) (WSs X bs)) := ps_while g.po pt_wt pss_ws
            obtain ⟨S1, a1, g1⟩ := (SGot.refl (c := c) (M := tchS (.whl ws e b)) o).wk t0 mw
            -- whatever comes out
            have main : ∀ (res : Res Flow) (D : Ends), res ≠ .stuck → whileR (fun env => (evalE G e env).bind fun r => (truth r.1).bind fun t => .ok (t, r.2)) (fun env => evalSs G b env) S.env = res →
                (∀ f, res = .ok f → FlowW X.K c (tchS (.whl ws e b)) σ S (some Γ1) D f) → (∀ x, res = .exc x → XWS ER W σ (tchS (.whl ws e b)) S x) → WS X (.While q bs [] spos) D σ S.H := by
              intro res D hres hev hF hX
              obtain ⟨n, hn⟩ := whileR_some hev hres
              refine .of rule ⟨fun m σ' H' => ∃ S', S'.H = H' ∧ SGot X.K c (tchS (.whl ws e b)) σ S S'.env Γ1 σ' S' ∧ loopN (fun env => (evalE G e env).bind fun r => (truth r.1).bind fun t => .ok (t, r.2)) (fun env => evalSs G b env) m S'.env = some res, ⟨n, S1, a1, ⟨rfl, g1.g, g1.stp, g1.ok, g1.len, g1.sig, g1.fix⟩, by rw [g1.env]; exact hn⟩, ?_⟩
              rintro m σ2 _ ⟨S2, rfl, g2, hl⟩
              cases m with
              | zero => simp [loopN] at hl
              | succ m =>
                have s1 := hc X G ER W k g.toGood q he.1 σ2 S2 r Γ1 (by rw [g2.g]; exact t1) g2.ok
                simp only [loopN] at hl
                split at hl
                · rename_i env1 hce
                  obtain ⟨⟨v, env1'⟩, ev1, hce⟩ := Res.bind_ok.mp hce
                  obtain ⟨t, htr, hce⟩ := Res.bind_ok.mp hce
                  simp only [Res.ok.injEq, Prod.mk.injEq] at hce
                  obtain ⟨rfl, rfl⟩ := hce
                  refine s1.ok v _ _ ev1 htr _ fun S3 g3 => ?_
                  rw [if_pos rfl]
                  have g3' : SGot X.K c (tchS (.whl ws e b)) σ S _ Γ1 σ2 S3 := g2.trans ((SGot.stepd g3).mono m0)
                  have sB := hb X G ER W k g bs he.2 { c with lp := some Γ1, lw := ws } σ2 S3 rb (by rw [g3'.g]; exact tB) g3'.ok
                  refine ⟨fun σ' H' => ∃ m', m' < m + 1 ∧ ∃ S', S'.H = H' ∧ SGot X.K c (tchS (.whl ws e b)) σ S S'.env Γ1 σ' S' ∧ loopN (fun env => (evalE G e env).bind fun r => (truth r.1).bind fun t => .ok (t, r.2)) (fun env => evalSs G b env) m' S'.env = some res, fun σ' H' h => h, ?_⟩
                  have again : ∀ e' σ' S', SGot X.K c (tchS (.whl ws e b)) σ S e' Γ1 σ' S' → loopN (fun env => (evalE G e env).bind fun r => (truth r.1).bind fun t => .ok (t, r.2)) (fun env => evalSs G b env) m e' = some res → ∃ m', m' < m + 1 ∧ ∃ S'', S''.H = S'.H ∧ SGot X.K c (tchS (.whl ws e b)) σ S S''.env Γ1 σ' S'' ∧ loopN (fun env => (evalE G e env).bind fun r => (truth r.1).bind fun t => .ok (t, r.2)) (fun env => evalSs G b env) m' S''.env = some res :=
                    fun e' σ' S' g h => ⟨m, by omega, S', rfl, ⟨rfl, g.g, g.stp, g.ok, g.len, g.sig, g.fix⟩, by rw [g.env]; exact h⟩
                  cases hbe : evalSs G b env1' with
                  | stuck => rw [hbe] at hl; cases hl; exact absurd rfl hres
                  | exc x =>
                    rw [hbe] at hl
                    cases hl
                    exact sB.exc x (by rw [g3'.env]; exact hbe) _ ((hX x rfl).step g3'.stp g3'.len g3'.sig m1)
                  | ok f1 =>
                    rw [hbe] at hl
                    refine sB.ok f1 (by rw [g3'.env]; exact hbe) _ (FlowW.body (tr := some Γ1) g3' m1 mw hbk (fun e' σ' S' hf g4 => ?_) (fun e' σ' S' hf g4 => ?_) fun v' e' hf => ?_)
                    · rcases hf with rfl | rfl
                      · exact again e' σ' S' g4 hl
                      · exact again e' σ' S' g4 hl
                    · subst hf
                      cases hl
                      exact hF _ rfl Γ1 σ' S' rfl g4
                    · subst hf
                      cases hl
                      exact hF _ rfl
                · rename_i env1 hce
                  obtain ⟨⟨v, env1'⟩, ev1, hce⟩ := Res.bind_ok.mp hce
                  obtain ⟨t, htr, hce⟩ := Res.bind_ok.mp hce
                  simp only [Res.ok.injEq, Prod.mk.injEq] at hce
                  obtain ⟨rfl, rfl⟩ := hce
                  cases hl
                  refine s1.ok v _ _ ev1 htr _ fun S3 g3 => ?_
                  rw [if_neg (by decide)]
                  exact hF _ rfl Γ1 σ2 S3 rfl (g2.trans ((SGot.stepd g3).mono m0))
                · rename_i x hce
                  cases hl
                  rcases Res.bind_exc.mp hce with hce | ⟨_, _, hce⟩
                  · exact s1.exc x hce _ (((hX x rfl).step g2.stp g2.len g2.sig (fun i hi => m0 i hi)).xw)
                  · rcases Res.bind_exc.mp hce with hce | ⟨_, _, hce⟩
                    · exact absurd hce truth_exc
                    · cases hce
                · cases hl; exact absurd rfl hres
            refine ⟨fun f ev D hD => main (.ok f) D (by simp) ev (fun f' e => by cases e; exact hD) (fun x e => by cases e), fun x ev D hx => main (.exc x) D (by simp) ev (fun f' e => by cases e) (fun x' e => by cases e; exact hx)⟩
          · cases ht
        · cases ht
      · cases ht
end
end OI
set_option maxRecDepth 100000
set_option maxHeartbeats 4000000
/-! OI35: what is walked. -/
namespace OI
open PySem PySem.Spec PyProof.Rows L2
section
variable {T : List FnA} {X : Cx} {K : PySem.W.Frag} {c : Lp} {σ σ' σ2 σ0 : St} {S S' S2 S0 : ASt} {M M' : List Nat} {H H' : Hp} {Z : Addr → Prop}
def WI (X : Cx) (tg q : Expr) : TI := fun σ H R => ∀ (pins : List (Addr × Obj)) (s : Shared), Inv X pins σ H s → wpAny (model X.prog X.w) X.A (eval q X.env) (fun v s1 => wpAny (model X.prog X.w) X.A (pyIter v) (PIE X pins σ tg R) X.xe s1) X.xe s
theorem pi_wi {tg q : Expr} : PI X tg q (WI X tg q) := ⟨fun pins s σ H R I h => h pins s I⟩
theorem WI.of {tg q : Expr} {wi : TI} {R : It → Hp → Prop} (p : PI X tg q wi) (h : wi σ H R) : WI X tg q σ H R := fun pins s I => p.run pins s σ H R I h
/-- what J yields from S on, while only M's slots change -/
structure Itg (K : PySem.W.Frag) (S : ASt) (M : List Nat) (τ : Tp) (xs : List PV) (J : It) : Prop where
  walk : ∃ (G : Hp → Prop) (Y : Nat → Hp → V → Hp → Prop), Walk J xs.length G Y ∧ ∀ H', Kp (Wr M S) S.H H' → G H' ∧ ∀ (i : Nat) (w : V) (H3 : Hp), i < xs.length → Y i H' w H3 → ∃ v, xs[i]? = some v ∧ RepT K H3 S.Z τ v w [] ∧ (H3 = H' ∨ ∃ p u, H' p = none ∧ H3 = upd H' p u)
def evalIt (G : Ctx) (it : E) (env : OI.Env) : Res (List PV × OI.Env) := (evalE G it env).bind fun r => (itemsOf r.1).bind fun xs => .ok (xs, r.2)
structure SndIO (T : List FnA) (X : Cx) (G : Ctx) (ER : ERel) (W : WX) (it : E) (tg q : Expr) (σ : St) (S : ASt) (τ : Tp) (ss : List Nat) (Γ' : List Gt) : Prop where
  ok : ∀ (xs : List PV) (env' : OI.Env), evalIt G it S.env = .ok (xs, env') → ∀ (Mb : List Nat), (∀ x ∈ ss, x ∉ Mb) → ∀ R : It → Hp → Prop, (∀ S' J, Stepd X.K σ (tchE it) S env' Γ' S' → Itg X.K S' Mb τ xs J → R J S'.H) → WI X tg q σ S.H R
  exc : ∀ x, evalE G it S.env = .exc x → ∀ R : It → Hp → Prop, XW ER W σ (tchE it) S x → WI X tg q σ S.H R
def SndI (T : List FnA) (it : E) : Prop := ∀ (X : Cx) (G : Ctx) (ER : ERel) (W : WX) (k : Nat), Good X T G ER W k → ∀ tg q : Expr, meE T X.N X.env.scope it q = true → itTg it tg = true → plainX q = true →
  ∀ (σ : St) (S : ASt) (τ : Tp) (ss : List Nat) (Γ' : List Gt), typI T it S.G = some (τ, ss, Γ') → Ok X.K σ S → SndIO T X G ER W it tg q σ S τ ss Γ'
theorem itemsOf_exc {v x : PV} : itemsOf v ≠ .exc x := by cases v <;> simp [itemsOf]
/-- a sequence in hand that stands while only M's slots change -/
structure SeqAt (K : PySem.W.Frag) (S : ASt) (M : List Nat) (τ : Tp) (v : PV) (w : V) : Prop where
  lst : ∀ xs, v = .lst xs → ∃ a ws, w = .ref a ∧ (∀ H', Kp (Wr M S) S.H H' → Rd H' a (.lst ws)) ∧ xs.length = ws.length ∧ ∀ (i : Nat) (u : V), ws[i]? = some u → ∃ x, xs[i]? = some x ∧ RepT K S.H S.Z τ x u []
  tup : ∀ xs, v = .tup xs → ∃ a ws, w = .ref a ∧ (∀ H', Kp (Wr M S) S.H H' → H' a = some (.tup ws)) ∧ xs.length = ws.length ∧ ∀ (i : Nat) (u : V), ws[i]? = some u → ∃ x, xs[i]? = some x ∧ RepT K S.H S.Z τ x u []
theorem Reps.at0 {xs : List PV} {ws : List V} (h : Reps K H Z 0 xs ws []) {i : Nat} {u : V} (e : ws[i]? = some u) : ∃ x, xs[i]? = some x ∧ Rep K H Z 0 x u [] := by
  have hl := h.length
  have hi : i < xs.length := by rw [hl]; exact (List.getElem?_eq_some_iff.mp e).1
  obtain ⟨w, Fx, e1, r, s⟩ := h.get (List.getElem?_eq_getElem hi)
  rw [e] at e1
  cases e1
  have : Fx = [] := Rep.zeroF r
  subst this
  exact ⟨_, List.getElem?_eq_getElem hi, r⟩
/-- what is in hand, made fit to be walked -/
theorem Got.seq {env' : OI.Env} {Γ' : List Gt} {r : TR} {v : PV} {w : V} {F : List Addr} {τ : Tp} (g : Got K σ M' S env' Γ' r v S' w F) (hτ : itT r = some τ) (hM : ∀ x, r.2 = some x → x ∉ M) : ∃ S2, S2.H = S'.H ∧ Stepd K σ M' S env' Γ' S2 ∧ SeqAt K S2 M τ v w := by
  obtain ⟨ρ, src⟩ := r
  cases ρ with
  | cl =>
    simp only [itT, Option.some.injEq] at hτ
    subst hτ
    obtain ⟨rfl, cl, rp⟩ := g.tmp.rep
    refine ⟨S', rfl, g.stepd, ⟨fun xs e => ?_, fun xs e => ?_⟩⟩
    · subst e
      obtain ⟨n, c⟩ := cl
      cases n <;> simp [clean] at c
    · subst e
      cases rp with
      | @tup0 _ a ws _ h1 h2 =>
        refine ⟨_, ws, rfl, fun H' k => k.tupR h1, h2.length, fun i u eu => ?_⟩
        obtain ⟨x, ex, rx⟩ := Reps.at0 h2 eu
        obtain ⟨n, c⟩ := cl
        exact ⟨x, ex, rfl, clean_sub c x (List.mem_of_getElem? ex), rx⟩
  | d n =>
    -- frozen, or borrowed
    cases src with
    | none =>
      have hτ0 : τ = .d 0 := by
        simp only [itT] at hτ
        split at hτ
        · exact (Option.some.inj hτ).symm
        · simpa using hτ.symm
      subst hτ0
      have gf := g.freeze
      have rp : Rep K (S'.frz F).H (S'.frz F).Z 0 v w [] := gf.tmp.rep
      refine ⟨S'.frz F, rfl, gf.stepd, ⟨fun xs e => ?_, fun xs e => ?_⟩⟩
      · subst e
        cases rp with
        | @lst0 _ a ws F' h1 h2 =>
          have e0 := Reps.zeroF h2
          subst e0
          exact ⟨_, ws, rfl, fun H' k => k.rdZ h1.1 (gf.ok.zW a h1.2), h2.length, fun i u eu => Reps.at0 h2 eu⟩
      · subst e
        cases rp with
        | @tup0 _ a ws _ h1 h2 => exact ⟨_, ws, rfl, fun H' k => k.tupR h1, h2.length, fun i u eu => Reps.at0 h2 eu⟩
    | some x =>
      have hn : n ≤ 1 ∧ τ = .d 0 := by
        simp only [itT] at hτ
        split at hτ
        · rename_i h; exact ⟨h, (Option.some.inj hτ).symm⟩
        · simp at hτ
      obtain ⟨hn, rfl⟩ := hn
      have rp : Rep K S'.H S'.Z n v w F := g.tmp.rep
      have ap : ∀ a ∈ F, ¬ Wr M S' a := g.tmp.apart g.ok fun y e => hM y e
      refine ⟨S', rfl, g.stepd, ⟨fun xs e => ?_, fun xs e => ?_⟩⟩
      · subst e
        cases rp with
        | @lst0 _ a ws F' h1 h2 =>
          have e0 := Reps.zeroF h2
          subst e0
          exact ⟨_, ws, rfl, fun H' k => k.rdZ h1.1 (g.ok.zW a h1.2), h2.length, fun i u eu => Reps.at0 h2 eu⟩
        | @lstS d _ a ws F' h1 h2 h3 =>
          have ed : d = 0 := by omega
          subst ed
          have e0 := Reps.zeroF h2
          subst e0
          exact ⟨_, ws, rfl, fun H' k => .inl (k a _ h1 (.inr (ap a (by simp)))), h2.length, fun i u eu => Reps.at0 h2 eu⟩
      · subst e
        cases rp with
        | @tup0 _ a ws _ h1 h2 =>
          have e0 := Reps.zeroF h2
          subst e0
          exact ⟨_, ws, rfl, fun H' k => k.tupR h1, h2.length, fun i u eu => Reps.at0 h2 eu⟩
        | @tupS d _ a ws F' h1 h2 =>
          have ed : d = 0 := by omega
          subst ed
          have e0 := Reps.zeroF h2
          subst e0
          exact ⟨_, ws, rfl, fun H' k => k.tupR h1, h2.length, fun i u eu => Reps.at0 h2 eu⟩
theorem RepT.kp {W : Addr → Prop} {τ : Tp} {v : PV} {w : V} (o : ∀ a, Z a → ¬ W a) (k : Kp W H H') (h : RepT K H Z τ v w []) : RepT K H' Z τ v w [] := h.keep k (fun _ z => nomatch z) o (fun _ z => z)
theorem itg_list {v : PV} {w : V} {τ : Tp} {xs : List PV} (o : Ok K σ S) (s : SeqAt K S M τ v w) (e : v = .lst xs) : ∃ a, w = .ref a ∧ (∃ ws, SqL K S.H a ws) ∧ Itg K S M τ xs (Itl K a) := by
  obtain ⟨a, ws, rfl, h1, h2, h3⟩ := s.lst xs e
  refine ⟨a, rfl, ⟨ws, .inl (h1 S.H .refl)⟩, ⟨_, _, h2 ▸ walk_list (xs := ws), fun H' k => ⟨.inl (h1 H' k), fun i u H3 hi y => ?_⟩⟩⟩
  obtain ⟨rfl, eu⟩ := y
  obtain ⟨x, ex, rx⟩ := h3 i u eu
  exact ⟨x, ex, rx.kp o.zW k, .inl rfl⟩
theorem itg_tup {v : PV} {w : V} {τ : Tp} {xs : List PV} (o : Ok K σ S) (s : SeqAt K S M τ v w) (e : v = .tup xs) : ∃ a, w = .ref a ∧ (∃ ws, SqT K S.H a ws) ∧ Itg K S M τ xs (Itt K a) := by
  obtain ⟨a, ws, rfl, h1, h2, h3⟩ := s.tup xs e
  refine ⟨a, rfl, ⟨ws, .of (h1 S.H .refl)⟩, ⟨_, _, h2 ▸ walk_tup (xs := ws), fun H' k => ⟨.of (h1 H' k), fun i u H3 hi y => ?_⟩⟩⟩
  obtain ⟨rfl, eu⟩ := y
  obtain ⟨x, ex, rx⟩ := h3 i u eu
  exact ⟨x, ex, rx.kp o.zW k, .inl rfl⟩
theorem itg_str {z : Str} {τ : Tp} (ht : τ = .cl ∨ τ = .d 0) : Itg K S M τ (charsP z) (Its z) := by
  have hl : (charsP z).length = z.cps.size := by simp [charsP]
  refine ⟨_, _, hl ▸ walk_str, fun H' k => ⟨trivial, fun i u H3 hi y => ?_⟩⟩
  obtain ⟨rfl, ch, ec, rfl⟩ := y
  refine ⟨.str ⟨#[ch]⟩, by simp [charsP, ec], ?_, .inl rfl⟩
  rcases ht with rfl | rfl
  · exact ⟨rfl, ⟨1, rfl⟩, .str _⟩
  · exact Rep.str (d := 0) _
theorem itT_two {r : TR} {τ : Tp} (h : itT r = some τ) : τ = .cl ∨ τ = .d 0 := by
  unfold itT at h
  split at h
  · exact .inl (Option.some.inj h).symm
  · split at h
    · exact .inr (Option.some.inj h).symm
    · split at h
      · exact .inr (Option.some.inj h).symm
      · cases h
/-- an expression that is walked as it is -/
theorem sndi_of {it : E} (h : SndE T it) (hn : ∀ p args, it ≠ .itr p args) : SndI T it := by
  have ih := snd_iff.mp h
  intro X G ER W k g tg q me htg hpx σ S τ ss Γ' ht o
  have ht2 : ∃ r, typE T it S.G = some (r, Γ') ∧ itT r = some τ ∧ ss = r.2.toList := by
    have e : typI T it S.G = plnI (typE T it S.G) := by
      cases it <;> first | rfl | exact absurd rfl (hn _ _)
    rw [e] at ht
    unfold plnI at ht
    split at ht
    · rename_i r Γ1 t1
      obtain ⟨τ', h1, h2⟩ := Option.map_eq_some_iff.mp ht
      cases h2
      exact ⟨r, t1, h1, rfl⟩
    · cases ht
  obtain ⟨r, t1, hτ, rfl⟩ := ht2
  have s1 := ih X G ER W k g q me σ S r Γ' t1 o
  refine ⟨fun xs env' ev Mb hM R hR => ?_, fun x ev R hx => ?_⟩
  · unfold evalIt at ev
    obtain ⟨⟨v, env1⟩, ev1, ev⟩ := Res.bind_ok.mp ev
    obtain ⟨xs', hxs, ev⟩ := Res.bind_ok.mp ev
    simp only [Res.ok.injEq, Prod.mk.injEq] at ev
    obtain ⟨rfl, rfl⟩ := ev
    have hM' : ∀ x, r.2 = some x → x ∉ Mb := fun x e => hM x (by simp [e])
    cases v <;> simp only [itemsOf, reduceCtorEq, Res.ok.injEq] at hxs
    · rename_i z
      subst hxs
      refine .of (pi_str pe_we) (s1.ok _ _ ev1 _ fun S1 w F g1 => ?_)
      have := g1.tmp.rep.top.strI
      subst this
      exact ⟨z, rfl, hR S1 _ g1.stepd (itg_str (itT_two hτ))⟩
    · subst hxs
      refine .of (pi_tup pe_we) (s1.ok _ _ ev1 _ fun S1 w F g1 => ?_)
      obtain ⟨S2, e1, g2, sq⟩ := g1.seq hτ hM'
      · obtain ⟨a, ea, hq, ig⟩ := itg_tup g2.ok sq rfl
        rw [← e1]
        exact ⟨a, ea, hq, hR S2 _ g2 ig⟩
    · subst hxs
      refine .of (pi_list pe_we) (s1.ok _ _ ev1 _ fun S1 w F g1 => ?_)
      obtain ⟨S2, e1, g2, sq⟩ := g1.seq hτ hM'
      · obtain ⟨a, ea, hq, ig⟩ := itg_list g2.ok sq rfl
        rw [← e1]
        exact ⟨a, ea, hq, hR S2 _ g2 ig⟩
    · -- no iterator is a value here
      refine .of (pi_list pe_we) (s1.ok _ _ ev1 _ fun S1 w F g1 => ?_)
      exfalso
      have := g1.tmp.rep.top
      cases this
  · exact .of (pi_list pe_we) (s1.exc x ev _ hx)
end
end OI
set_option maxRecDepth 100000
set_option maxHeartbeats 4000000
/-! OI36: iterators that are only walked. -/
namespace OI
open PySem PySem.Spec PyProof.Rows L2
section
variable {T : List FnA} {X : Cx} {K : PySem.W.Frag} {c : Lp} {σ σ' σ2 σ0 : St} {S S' S2 S0 : ASt} {M M' : List Nat} {H H' : Hp} {Z : Addr → Prop}
def ownL : List TR → List (List Addr) → List Addr
  | r :: rs, F :: Fl => (if r.2 = none then F else []) ++ ownL rs Fl
  | _, _ => []
theorem ownL_mem {a : Addr} : ∀ {rs : List TR} {Fl : List (List Addr)}, a ∈ ownL rs Fl → ∃ (j : Nat) (r : TR) (F : List Addr), rs[j]? = some r ∧ Fl[j]? = some F ∧ r.2 = none ∧ a ∈ F
  | [], _, h => by simp [ownL] at h
  | _ :: _, [], h => by simp [ownL] at h
  | r :: rs, F :: Fl, h => by
    simp only [ownL, List.mem_append] at h
    rcases h with h | h
    · split at h
      · exact ⟨0, r, F, rfl, rfl, by assumption, h⟩
      · cases h
    · obtain ⟨j, r', F', e1, e2, e3, e4⟩ := ownL_mem h
      exact ⟨j + 1, r', F', by simpa using e1, by simpa using e2, e3, e4⟩
theorem ownL_of {a : Addr} : ∀ {rs : List TR} {Fl : List (List Addr)} {j : Nat} {r : TR} {F : List Addr}, rs[j]? = some r → Fl[j]? = some F → r.2 = none → a ∈ F → a ∈ ownL rs Fl
  | [], _, j, _, _, h, _, _, _ => by simp at h
  | _ :: _, [], j, _, _, _, h, _, _ => by simp at h
  | r :: rs, F :: Fl, 0, r', F', h1, h2, h3, h4 => by
    simp at h1 h2
    subst h1 h2
    simp [ownL, h3, h4]
  | r :: rs, F :: Fl, j + 1, r', F', h1, h2, h3, h4 => by
    simp only [ownL, List.mem_append]
    exact .inr (ownL_of (by simpa using h1) (by simpa using h2) h3 h4)
theorem seqAt_frz {r : TR} {v : PV} {w : V} {F L : List Addr} {τ : Tp} (o : Ok K σ (S.frz L)) (tm : Tmp K S r.1 r.2 v w F) (hτ : itT r = some τ) (hM : ∀ x, r.2 = some x → x ∉ M) (hL : r.2 = none → ∀ a ∈ F, a ∈ L) (o0 : Ok K σ S) : SeqAt K (S.frz L) M τ v w := by
  obtain ⟨ρ, src⟩ := r
  cases ρ with
  | cl =>
    simp only [itT, Option.some.injEq] at hτ
    subst hτ
    obtain ⟨rfl, cl, rp⟩ := tm.rep
    refine ⟨fun xs e => ?_, fun xs e => ?_⟩
    · subst e
      obtain ⟨n, c⟩ := cl
      cases n <;> simp [clean] at c
    · subst e
      have rp : Rep K (S.frz L).H (S.frz L).Z 0 (.tup xs) w [] := rp.keep (W := fun _ => False) .refl (fun _ _ z => z) (fun _ _ z => z) (fun _ z => .inl z)
      cases rp with
      | @tup0 _ a ws _ h1 h2 =>
        refine ⟨_, ws, rfl, fun H' k => k.tupR h1, h2.length, fun i u eu => ?_⟩
        obtain ⟨x, ex, rx⟩ := Reps.at0 h2 eu
        obtain ⟨n, c⟩ := cl
        exact ⟨x, ex, rfl, clean_sub c x (List.mem_of_getElem? ex), rx⟩
  | d n =>
    cases src with
    | none =>
      have hτ0 : τ = .d 0 := by
        simp only [itT] at hτ
        split at hτ
        · exact (Option.some.inj hτ).symm
        · simpa using hτ.symm
      subst hτ0
      have rp : Rep K (S.frz L).H (S.frz L).Z 0 v w [] := Rep.freeze (fun _ z => .inl z) (fun a ha => .inr (hL rfl a ha)) tm.rep
      refine ⟨fun xs e => ?_, fun xs e => ?_⟩
      · subst e
        cases rp with
        | @lst0 _ a ws F' h1 h2 =>
          have e0 := Reps.zeroF h2
          subst e0
          exact ⟨_, ws, rfl, fun H' k => k.rdZ h1.1 (o.zW a h1.2), h2.length, fun i u eu => Reps.at0 h2 eu⟩
      · subst e
        cases rp with
        | @tup0 _ a ws _ h1 h2 => exact ⟨_, ws, rfl, fun H' k => k.tupR h1, h2.length, fun i u eu => Reps.at0 h2 eu⟩
    | some x =>
      have hn : n ≤ 1 ∧ τ = .d 0 := by
        simp only [itT] at hτ
        split at hτ
        · rename_i h; exact ⟨h, (Option.some.inj hτ).symm⟩
        · simp at hτ
      obtain ⟨hn, rfl⟩ := hn
      have rp : Rep K S.H S.Z n v w F := tm.rep
      have rp : Rep K (S.frz L).H (S.frz L).Z n v w F := rp.keep (W := fun _ => False) .refl (fun _ _ z => z) (fun _ _ z => z) (fun _ z => .inl z)
      have ap : ∀ a ∈ F, ¬ Wr M (S.frz L) a := tm.apart o0 fun y e => hM y e
      refine ⟨fun xs e => ?_, fun xs e => ?_⟩
      · subst e
        cases rp with
        | @lst0 _ a ws F' h1 h2 =>
          have e0 := Reps.zeroF h2
          subst e0
          exact ⟨_, ws, rfl, fun H' k => k.rdZ h1.1 (o.zW a h1.2), h2.length, fun i u eu => Reps.at0 h2 eu⟩
        | @lstS d _ a ws F' h1 h2 h3 =>
          have ed : d = 0 := by omega
          subst ed
          have e0 := Reps.zeroF h2
          subst e0
          exact ⟨_, ws, rfl, fun H' k => .inl (k a _ h1 (.inr (ap a (by simp)))), h2.length, fun i u eu => Reps.at0 h2 eu⟩
      · subst e
        cases rp with
        | @tup0 _ a ws _ h1 h2 =>
          have e0 := Reps.zeroF h2
          subst e0
          exact ⟨_, ws, rfl, fun H' k => k.tupR h1, h2.length, fun i u eu => Reps.at0 h2 eu⟩
        | @tupS d _ a ws F' h1 h2 =>
          have ed : d = 0 := by omega
          subst ed
          have e0 := Reps.zeroF h2
          subst e0
          exact ⟨_, ws, rfl, fun H' k => k.tupR h1, h2.length, fun i u eu => Reps.at0 h2 eu⟩
/-- all arguments, made fit to be walked -/
theorem Gots.seqs {env' : OI.Env} {Γ' : List Gt} {rs : List TR} {vs : List PV} {ws : List V} {Fl : List (List Addr)} (g : Gots K σ M' S env' Γ' rs vs S' ws Fl) (hs : rs.all (fun r => (itT r).isSome) = true) (hM : ∀ x ∈ rs.filterMap (·.2), x ∉ M) :
    ∃ S2, S2.H = S'.H ∧ Stepd K σ M' S env' Γ' S2 ∧ ∀ (j : Nat) (v : PV) (w : V), vs[j]? = some v → ws[j]? = some w → ∃ r τ, rs[j]? = some r ∧ itT r = some τ ∧ SeqAt K S2 M τ v w := by
  have hL : ∀ a ∈ ownL rs Fl, S'.H a ≠ none ∧ (∀ i, a ∉ S'.Fs i) ∧ (S.H a = none ∨ Wr M' S a) := fun a ha => by
    obtain ⟨j, r, F, e1, e2, e3, e4⟩ := ownL_mem ha
    obtain ⟨r', v', w', e5, _, _, tm⟩ := g.tmps.all j F e2
    rw [e1] at e5
    cases e5
    obtain ⟨ob, eo, _⟩ := tm.rep.trk a e4
    exact ⟨by rw [eo]; simp, fun i => tm.own e3 i a e4, g.new j r F e1 e2 e3 a e4⟩
  have ok := g.ok.frz (fun a ha => (hL a ha).1) fun i a ha => (hL a ha).2.1 i
  refine ⟨S'.frz (ownL rs Fl), rfl, ⟨g.env, g.g, g.stp.frzB fun a ha => (hL a ha).2.2, ok⟩, fun j v w hv hw => ?_⟩
  obtain ⟨l1, l2, l3⟩ := g.tmps.lens
  have hj : j < vs.length := (List.getElem?_eq_some_iff.mp hv).1
  have hF : Fl[j]? = some Fl[j] := List.getElem?_eq_getElem (by omega)
  obtain ⟨r, v', w', e1, e2, e3, tm⟩ := g.tmps.all j _ hF
  rw [hv] at e2
  rw [hw] at e3
  cases e2
  cases e3
  have hr := List.all_eq_true.mp hs r (List.mem_of_getElem? e1)
  obtain ⟨τ, hτ⟩ := Option.isSome_iff_exists.mp hr
  exact ⟨r, τ, e1, hτ, seqAt_frz ok tm hτ (fun x e => hM x (List.mem_filterMap.mpr ⟨r, List.mem_of_getElem? e1, e⟩)) (fun e a ha => ownL_of e1 hF e ha) g.ok⟩
theorem evalIt_itr {G : Ctx} {p : Prim} {args : List E} {env env' : OI.Env} {xs : List PV} (h : evalIt G (.itr p args) env = .ok (xs, env')) : ∃ vs, evalEs G args env = .ok (vs, env') ∧ iterP p vs = .ok xs := by
  unfold evalIt at h
  simp only [evalE] at h
  obtain ⟨⟨v, e1⟩, h1, h2⟩ := Res.bind_ok.mp h
  obtain ⟨⟨vs, e2⟩, h3, h4⟩ := Res.bind_ok.mp h1
  obtain ⟨ys, h5, h6⟩ := Res.bind_ok.mp h4
  cases h6
  simp only [itemsOf, Res.bind, Res.ok.injEq, Prod.mk.injEq] at h2
  obtain ⟨rfl, rfl⟩ := h2
  exact ⟨vs, h3, h5⟩
theorem iterP_exc {p : Prim} {vs : List PV} {x : PV} : iterP p vs ≠ .exc x := by
  unfold iterP
  split <;> simp [need] <;> split <;> simp
theorem Tmps.ints : ∀ {ns : List Int} {rs : List TR} {ws : List V} {Fl : List (List Addr)}, Tmps K S rs (ns.map PV.int) ws Fl → ws = ns.map V.int := by
  intro ns
  induction ns with
  | nil => intro rs ws Fl h; cases h; rfl
  | cons n ns ih =>
    intro rs ws Fl h
    cases h with
    | cons t ts _ => simp only [List.map_cons]; rw [t.rep.top.intI, ih ts]
theorem walk_zipT {a b : Addr} {xs ys : List V} {n : Nat} (hn : n = min xs.length ys.length) : Walk (RZ.ItzT K a b) n (fun H => SqT K H a xs ∧ SqT K H b ys) (YPair (fun i => xs[i]?) (fun i => ys[i]?)) := by
  subst hn
  refine ⟨fun i _ hi q => ?_, fun _ q => ⟨xs, ys, q.1, q.2, by omega⟩, fun i H v H' _ q y => ?_⟩
  · have h1 : i < xs.length := by omega
    have h2 : i < ys.length := by omega
    exact ⟨xs, ys, xs[i], ys[i], q.1, q.2, by simp [h1], by simp [h2]⟩
  · obtain ⟨T, x, z, h1, h2, h3, h4, h5⟩ := y
    exact ⟨T, x, z, h1, h2, h3, h4 xs q.1, h5 ys q.2⟩
theorem itg_fn {τ : Tp} {xs : List PV} {n : Nat} {J : It} {f : Nat → Int} (hw : Walk J n (fun _ => True) (YFn fun i => .int (f i))) (hx : xs = (List.range n).map fun i => .int (f i)) (ht : τ = .cl ∨ τ = .d 0) : Itg K S M τ xs J := by
  have hl : xs.length = n := by rw [hx]; simp
  refine ⟨_, _, hl ▸ hw, fun H' k => ⟨trivial, fun i u H3 hi y => ?_⟩⟩
  obtain ⟨rfl, rfl⟩ := y
  have hi' : i < n := by rw [hl] at hi; exact hi
  refine ⟨.int (f i), by rw [hx, List.getElem?_map, List.getElem?_range hi']; rfl, ?_, .inl rfl⟩
  rcases ht with rfl | rfl
  · exact ⟨rfl, ⟨1, rfl⟩, .int _⟩
  · exact Rep.int (d := 0) _
theorem itr_tau {rs : List TR} : (if rs.all isCl then Tp.cl else .d 0) = .cl ∨ (if rs.all isCl then Tp.cl else .d 0) = .d 0 := by split <;> simp
/-- the items' type, made weaker -/
theorem RepT.to0 {τ : Tp} {v : PV} {w : V} (h : RepT K H Z τ v w []) (ht : τ = .cl ∨ τ = .d 0) : Rep K H Z 0 v w [] := by
  rcases ht with rfl | rfl
  · exact h.cl0.2 _ _
  · exact h
theorem len1 {α : Type} {l : List α} (h : l.length = 1) : ∃ a, l = [a] := by
  match l, h with
  | [a], _ => exact ⟨a, rfl⟩
theorem meEs_len {N : List Str} {sc : Scope} : ∀ {es : List E} {qs : List Expr}, meEs T N sc es qs = true → es.length = qs.length
  | [], [], _ => rfl
  | [], _ :: _, h => by simp [meEs] at h
  | _ :: _, [], h => by simp [meEs] at h
  | e :: es, q :: qs, h => by
    simp only [meEs, Bool.and_eq_true] at h
    simp [meEs_len h.2]
theorem evalEs_len {G : Ctx} : ∀ {es : List E} {env env' : OI.Env} {vs : List PV}, evalEs G es env = .ok (vs, env') → vs.length = es.length
  | [], _, _, _, h => by
    simp only [evalEs, Res.ok.injEq, Prod.mk.injEq] at h
    obtain ⟨rfl, _⟩ := h
    rfl
  | e :: es, _, _, _, h => by
    simp only [evalEs] at h
    split at h
    · obtain ⟨_, _, h⟩ := Res.bind_ok.mp h
      obtain ⟨_, h1, h⟩ := Res.bind_ok.mp h
      obtain ⟨_, _, h⟩ := Res.bind_ok.mp h
      cases h
      simp [evalEs_len h1]
    · obtain ⟨_, _, h⟩ := Res.bind_ok.mp h
      obtain ⟨_, h1, h⟩ := Res.bind_ok.mp h
      cases h
      simp [evalEs_len h1]
theorem me_itr {N : List Str} {sc : Scope} {p : Prim} {args : List E} {q : Expr} (h : meE T N sc (.itr p args) q = true) : ∃ pos qs cpos, q = .Call (.Name (Str.ofString p.nm) pos) qs [] cpos ∧ glB sc (Str.ofString p.nm) = true ∧ itAr p qs.length = true ∧ meEs T N sc args qs = true := by
  simp only [meE] at h
  split at h
  · rename_i x pos qs cpos
    simp only [Bool.and_eq_true, decide_eq_true_eq] at h
    obtain ⟨⟨⟨rfl, h1⟩, h2⟩, h3⟩ := h
    exact ⟨pos, qs, cpos, rfl, h1, h2, h3⟩
  · cases h
theorem star1 {a : Expr} {env : PySem.Env} (h : plainX a = true) : starEach [a] env = [(false, eval a env)] := star_plain h
theorem evalIt_exc {G : Ctx} {p : Prim} {args : List E} {env : OI.Env} {x : PV} (h : evalE G (.itr p args) env = .exc x) : evalEs G args env = .exc x := by
  simp only [evalE] at h
  rcases Res.bind_exc.mp h with h | ⟨_, _, h⟩
  · exact h
  · rcases Res.bind_exc.mp h with h | ⟨_, _, h⟩
    · exact absurd h iterP_exc
    · cases h
theorem sndi_itr {p : Prim} {args : List E} (hs : ∀ e ∈ args, SndE T e) : SndI T (.itr p args) := by
  have ih := snds_iff.mp (snds_of hs)
  intro X G ER W k g tg q me htg hpx σ S τ ss Γ' ht o
  obtain ⟨pos, qs, cpos, rfl, hgl, har, hma⟩ := me_itr me
  simp only [typI, itrI] at ht
  cases t1 : typEs T args S.G with
  | none => simp [t1] at ht
  | some p1 =>
    obtain ⟨rs, Γ1⟩ := p1
    simp only [t1] at ht
    split at ht
    · rename_i hit
      simp only [Option.some.injEq, Prod.mk.injEq] at ht
      obtain ⟨hτ, rfl, rfl⟩ := ht
      have s1 := ih X G ER W k g qs hma σ S rs Γ1 t1 o
      have hgx := glB_gl hgl
      have hm := g.free p
      have hpq := meEs_plain hma
      have tE : tchE (.itr p args) = tchEs args := by simp [tchE]
      have hτ2 : τ = .cl ∨ τ = .d 0 := by rw [← hτ]; exact itr_tau
      have hsub : ∀ (r : TR) (τ' : Tp), r ∈ rs → itT r = some τ' → τ = .cl → τ' = .cl := fun r τ' hr h1 h2 => by
        rw [h2] at hτ
        split at hτ
        · rename_i hc
          have := List.all_eq_true.mp hc r hr
          have e : r.1 = .cl := by simpa [isCl] using this
          unfold itT at h1
          rw [e] at h1
          exact (Option.some.inj h1).symm
        · cases hτ
      -- the items in the wanted type
      have conv : ∀ {H : Hp} {Z : Addr → Prop} {v : PV} {w : V} (r : TR) (τ' : Tp), r ∈ rs → itT r = some τ' → RepT X.K H Z τ' v w [] → RepT X.K H Z τ v w [] := fun r τ' hr h1 h2 => by
        rcases hτ2 with e | e
        · have := hsub r τ' hr h1 e
          rw [e]; rw [this] at h2; exact h2
        · rw [e]; exact h2.to0 (itT_two h1)
      -- a pair of such
      have pair : ∀ {H3 H' : Hp} {Z : Addr → Prop} {a b : PV} {x y : V} {t : Addr}, H' t = none → H3 = upd H' t (.tup [x, y]) → RepT X.K H' Z τ a x [] → RepT X.K H' Z τ b y [] → RepT X.K H3 Z τ (.tup [a, b]) (.ref t) [] := fun {H3 H' Z a b x y t} hn he r1 r2 => by
        subst he
        have k : Kp (fun _ => False) H' (upd H' t (.tup [x, y])) := kp_new hn
        have q1 := RepT.keep (Z' := Z) k (by intro a ha; cases ha) (fun _ _ z => z) (fun _ z => z) r1
        have q2 := RepT.keep (Z' := Z) k (by intro a ha; cases ha) (fun _ _ z => z) (fun _ z => z) r2
        rcases hτ2 with e | e <;> rw [e] at q1 q2 ⊢
        · refine ⟨rfl, clean_tup fun v hv => ?_, .tup0 upd_same (Reps.cons (F := []) (G := []) q1.2.2 (Reps.cons (F := []) (G := []) q2.2.2 .nil fun _ z => nomatch z) fun _ z => nomatch z)⟩
          simp at hv
          rcases hv with rfl | rfl
          · exact q1.2.1
          · exact q2.2.1
        · exact .tup0 upd_same (Reps.cons (F := []) (G := []) q1 (Reps.cons (F := []) (G := []) q2 .nil fun _ z => nomatch z) fun _ z => nomatch z)
      have intR : ∀ {H : Hp} {Z : Addr → Prop} (n : Int), RepT X.K H Z τ (.int n) (.int n) [] := fun n => by
        rcases hτ2 with e | e <;> rw [e]
        · exact ⟨rfl, ⟨1, rfl⟩, .int _⟩
        · exact Rep.int (d := 0) _
      have lens : ∀ vs env', evalEs G args S.env = .ok (vs, env') → vs.length = qs.length := fun vs env' e => (evalEs_len e).trans (meEs_len hma)
      have fin : ∀ S1 ws Fl vs env', Gots X.K σ (tchEs args) S env' Γ1 rs vs S1 ws Fl → Stepd X.K σ (tchE (.itr p args)) S env' Γ1 S1 := fun S1 ws Fl vs env' g1 => ⟨g1.env, g1.g, tE ▸ g1.stp, g1.ok⟩
      cases p <;> simp only [itAr, Bool.false_eq_true, Bool.or_eq_true, beq_iff_eq] at har
      · -- range
        rcases har with (h1 | h2) | h3
        · obtain ⟨a, rfl⟩ := len1 h1
          simp only [List.all_cons, List.all_nil, Bool.and_true] at hpq
          have rule : PI X tg (.Call (.Name "range" pos) [a] [] cpos) (iRng1 (WL X [a])) := pi_range1 hgx hm (pa_wl (by simpa using hpq)) (star1 hpq)
          refine ⟨fun xs env' ev Mb hM R hR => ?_, fun x ev R hx => .of rule (s1.exc x (evalIt_exc ev) _ (tE ▸ hx))⟩
          obtain ⟨vs, ev1, ev2⟩ := evalIt_itr ev
          obtain ⟨v, rfl⟩ := len1 (lens vs env' ev1)
          cases v <;> simp only [iterP, reduceCtorEq] at ev2
          rename_i b
          obtain ⟨hs, ev2⟩ := need_ok.mp ev2
          cases ev2
          refine .of rule (s1.ok _ env' ev1 _ fun S1 ws Fl g1 => ?_)
          have := g1.tmps.ints (ns := [b])
          subst this
          exact ⟨b, rfl, hs.1, hs.2, hR S1 _ (fin _ _ _ _ _ g1) (itg_fn walk_range (by simp [rangeP]) hτ2)⟩
        · obtain ⟨a, d, rfl⟩ := len2 h2
          simp only [List.all_cons, List.all_nil, Bool.and_true, Bool.and_eq_true] at hpq
          have rule : PI X tg (.Call (.Name "range" pos) [a, d] [] cpos) (iRng2 (WL X [a, d])) := pi_range2 hgx hm (pa_wl (by simpa using hpq)) (by rw [star_plain hpq.1, star1 hpq.2]) (star1 hpq.2)
          refine ⟨fun xs env' ev Mb hM R hR => ?_, fun x ev R hx => .of rule (s1.exc x (evalIt_exc ev) _ (tE ▸ hx))⟩
          obtain ⟨vs, ev1, ev2⟩ := evalIt_itr ev
          obtain ⟨v, v', rfl⟩ := len2 (lens vs env' ev1)
          cases v <;> cases v' <;> simp only [iterP, reduceCtorEq] at ev2
          rename_i b b'
          obtain ⟨hs, ev2⟩ := need_ok.mp ev2
          cases ev2
          refine .of rule (s1.ok _ env' ev1 _ fun S1 ws Fl g1 => ?_)
          have := g1.tmps.ints (ns := [b, b'])
          subst this
          exact ⟨b, b', rfl, ⟨hs.1.1, hs.1.2, hs.2.1, hs.2.2⟩, hR S1 _ (fin _ _ _ _ _ g1) (itg_fn walk_range (by simp [rangeP]) hτ2)⟩
        · obtain ⟨a, d, e, rfl⟩ := len3 h3
          simp only [List.all_cons, List.all_nil, Bool.and_true, Bool.and_eq_true] at hpq
          have rule : PI X tg (.Call (.Name "range" pos) [a, d, e] [] cpos) (iRng3 (WL X [a, d, e])) := pi_range3 hgx hm (pa_wl (by simpa using hpq)) (star_plain hpq.1) (backTo_plain (by simpa using hpq.2)).2
          refine ⟨fun xs env' ev Mb hM R hR => ?_, fun x ev R hx => .of rule (s1.exc x (evalIt_exc ev) _ (tE ▸ hx))⟩
          obtain ⟨vs, ev1, ev2⟩ := evalIt_itr ev
          obtain ⟨v, v', v'', rfl⟩ := len3 (lens vs env' ev1)
          cases v <;> cases v' <;> simp only [iterP, reduceCtorEq] at ev2
      · -- enumerate
        obtain ⟨a, rfl⟩ := len1 har
        simp only [List.all_cons, List.all_nil, Bool.and_true] at hpq
        cases tg <;> simp only [itTg, Bool.false_eq_true] at htg
        rename_i elts kk tpos
        have rule : PI X (.Tuple elts kk tpos) (.Call (.Name "enumerate" pos) [a] [] cpos) (iEnum X.K (WL X [a])) := pi_enum hgx hm (pa_wl (by simpa using hpq)) (star1 hpq)
        refine ⟨fun xs env' ev Mb hM R hR => ?_, fun x ev R hx => .of rule (s1.exc x (evalIt_exc ev) _ (tE ▸ hx))⟩
        obtain ⟨vs, ev1, ev2⟩ := evalIt_itr ev
        obtain ⟨v, rfl⟩ := len1 (lens vs env' ev1)
        cases v <;> simp only [iterP, reduceCtorEq, Res.ok.injEq] at ev2
        rename_i ys
        subst ev2
        refine .of rule (s1.ok _ env' ev1 _ fun S1 ws Fl g1 => ?_)
        obtain ⟨_, l2, _⟩ := g1.tmps.lens
        obtain ⟨w, rfl⟩ := len1 (l := ws) (by simpa using l2)
        obtain ⟨S2, e1, g2, sq⟩ := g1.seqs hit hM
        obtain ⟨r, τ', hr, hτ', sq⟩ := sq 0 _ _ rfl rfl
        obtain ⟨p, us, rfl, h1, h2, h3⟩ := sq.lst ys rfl
        rw [← e1]
        refine ⟨p, us, rfl, .inl (h1 S2.H .refl), hR S2 _ (tE ▸ g2) ⟨fun H => SqL X.K H p us, YPair (fun i => some (.int (i : Nat))) (fun i => us[i]?), ?_, fun H' k => ⟨.inl (h1 H' k), fun i u H3 hi y => ?_⟩⟩⟩
        · have : (enumP ys).length = us.length := by simp [enumP, h2]
          exact this ▸ walk_enum (xs := us)
        · obtain ⟨t, x, y, rfl, hn, he, hx, hy⟩ := y
          cases hx
          obtain ⟨z, hz, rz⟩ := h3 i y hy
          refine ⟨.tup [.int (i : Nat), z], ?_, pair hn he (intR _) ((conv r τ' (List.mem_of_getElem? hr) hτ' rz).kp g2.ok.zW k), .inr ⟨t, _, hn, he⟩⟩
          have hiy : i < ys.length := (List.getElem?_eq_some_iff.mp hz).1
          simp [enumP, List.getElem?_zipWith, List.getElem?_range hiy, hz]
      · -- zip
        obtain ⟨a, d, rfl⟩ := len2 har
        simp only [List.all_cons, List.all_nil, Bool.and_true, Bool.and_eq_true] at hpq
        cases tg <;> simp only [itTg, Bool.false_eq_true] at htg
        rename_i elts kk tpos
        have rule : PI X (.Tuple elts kk tpos) (.Call (.Name "zip" pos) [a, d] [] cpos) (RZ.iZipA X.K (WL X [a, d])) := RZ.pi_zipA hgx hm (pa_wl (by simpa using hpq)) (star_plain hpq.1) (backTo_plain (by simpa using hpq.2)).2
        refine ⟨fun xs env' ev Mb hM R hR => ?_, fun x ev R hx => .of rule (s1.exc x (evalIt_exc ev) _ (tE ▸ hx))⟩
        obtain ⟨vs, ev1, ev2⟩ := evalIt_itr ev
        obtain ⟨v, v', rfl⟩ := len2 (lens vs env' ev1)
        have two : ∀ S1 ws Fl, Gots X.K σ (tchEs args) S env' Γ1 rs [v, v'] S1 ws Fl → ∃ w w' S2, ws = [w, w'] ∧ S2.H = S1.H ∧ Stepd X.K σ (tchEs args) S env' Γ1 S2 ∧ (∃ r τ', r ∈ rs ∧ itT r = some τ' ∧ SeqAt X.K S2 Mb τ' v w) ∧ ∃ r τ', r ∈ rs ∧ itT r = some τ' ∧ SeqAt X.K S2 Mb τ' v' w' := fun S1 ws Fl g1 => by
          obtain ⟨_, l2, _⟩ := g1.tmps.lens
          obtain ⟨w, w', rfl⟩ := len2 (l := ws) (by simpa using l2)
          obtain ⟨S2, e1, g2, sq⟩ := g1.seqs hit hM
          obtain ⟨r, τ', hr, hτ', sq1⟩ := sq 0 _ _ rfl rfl
          obtain ⟨r2, τ2, hr2, hτ2, sq2⟩ := sq 1 _ _ rfl rfl
          exact ⟨w, w', S2, rfl, e1, g2, ⟨r, τ', List.mem_of_getElem? hr, hτ', sq1⟩, r2, τ2, List.mem_of_getElem? hr2, hτ2, sq2⟩
        have ends : ∀ {S2 : ASt} {ys zs : List PV} {us ws' : List V} {r r2 : TR} {τ' τ2 : Tp} {J : It} {GG : Hp → Prop}, Ok X.K σ S2 → r ∈ rs → r2 ∈ rs → itT r = some τ' → itT r2 = some τ2 → ys.length = us.length → zs.length = ws'.length →
            (∀ (i : Nat) (u : V), us[i]? = some u → ∃ x, ys[i]? = some x ∧ RepT X.K S2.H S2.Z τ' x u []) → (∀ (i : Nat) (u : V), ws'[i]? = some u → ∃ x, zs[i]? = some x ∧ RepT X.K S2.H S2.Z τ2 x u []) → (∀ H', Kp (Wr Mb S2) S2.H H' → GG H') →
            (∀ n, n = min us.length ws'.length → Walk J n GG (YPair (fun i => us[i]?) (fun i => ws'[i]?))) → Itg X.K S2 Mb τ (zipP ys zs) J := by
          intro S2 ys zs us ws' r r2 τ' τ2 J GG ok hr hr2 ht' ht2 l1 l2 h3 h3' hG hw
          refine ⟨GG, _, hw _ (by simp [zipP, l1, l2]), fun H' k => ⟨hG H' k, fun i u H3 hi y => ?_⟩⟩
          obtain ⟨t, x, y, rfl, hn, he, hx, hy⟩ := y
          obtain ⟨x', hx', rx⟩ := h3 i x hx
          obtain ⟨y', hy', ry⟩ := h3' i y hy
          exact ⟨.tup [x', y'], by simp [zipP, List.getElem?_zipWith, hx', hy'], pair hn he ((conv r τ' hr ht' rx).kp ok.zW k) ((conv r2 τ2 hr2 ht2 ry).kp ok.zW k), .inr ⟨t, _, hn, he⟩⟩
        cases v <;> cases v' <;> simp only [iterP, reduceCtorEq, Res.ok.injEq] at ev2
        · subst ev2
          rename_i ys zs
          refine .of rule (s1.ok _ env' ev1 _ fun S1 ws Fl g1 => ?_)
          obtain ⟨w, w', S2, rfl, e1, g2, ⟨r, τ', hr, ht', q1⟩, r2, τ2, hr2, ht2, q2⟩ := two S1 ws Fl g1
          obtain ⟨p, us, rfl, h1, h2, h3⟩ := q1.tup ys rfl
          obtain ⟨p', us', rfl, h1', h2', h3'⟩ := q2.tup zs rfl
          rw [← e1]
          exact ⟨p, p', us, us', rfl, .inr ⟨.of (h1 S2.H .refl), .of (h1' S2.H .refl), hR S2 _ (tE ▸ g2) (ends g2.ok hr hr2 ht' ht2 h2 h2' h3 h3' (fun H' k => ⟨.of (h1 H' k), .of (h1' H' k)⟩) fun n hn => walk_zipT hn)⟩⟩
        · subst ev2
          rename_i ys zs
          refine .of rule (s1.ok _ env' ev1 _ fun S1 ws Fl g1 => ?_)
          obtain ⟨w, w', S2, rfl, e1, g2, ⟨r, τ', hr, ht', q1⟩, r2, τ2, hr2, ht2, q2⟩ := two S1 ws Fl g1
          obtain ⟨p, us, rfl, h1, h2, h3⟩ := q1.lst ys rfl
          obtain ⟨p', us', rfl, h1', h2', h3'⟩ := q2.lst zs rfl
          rw [← e1]
          exact ⟨p, p', us, us', rfl, .inl ⟨.inl (h1 S2.H .refl), .inl (h1' S2.H .refl), hR S2 _ (tE ▸ g2) (ends g2.ok hr hr2 ht' ht2 h2 h2' h3 h3' (fun H' k => ⟨.inl (h1 H' k), .inl (h1' H' k)⟩) fun n hn => walk_zip hn)⟩⟩
      · -- reversed
        obtain ⟨a, rfl⟩ := len1 har
        simp only [List.all_cons, List.all_nil, Bool.and_true] at hpq
        have rule : PI X tg (.Call (.Name "reversed" pos) [a] [] cpos) (RT.iRevA X.K (WE X a)) := RT.pi_revA hgx hm pe_we (star_plain hpq)
        refine ⟨fun xs env' ev Mb hM R hR => ?_, fun x ev R hx => .of rule (s1.exc x (evalIt_exc ev) (fun ws H1 => ∃ (p : Addr) (us : List V), ws = [.ref p] ∧ ((SqL X.K H1 p us ∧ R (Itv X.K p us.length) H1) ∨ (SqT X.K H1 p us ∧ R (RT.ItvT X.K p us.length) H1))) (tE ▸ hx) |> fun h => WE.imp h fun v H1 ⟨p, us, e, q⟩ => ⟨p, us, by simpa using e, q⟩)⟩
        obtain ⟨vs, ev1, ev2⟩ := evalIt_itr ev
        obtain ⟨v, rfl⟩ := len1 (lens vs env' ev1)
        have one : ∀ S1 ws Fl, Gots X.K σ (tchEs args) S env' Γ1 rs [v] S1 ws Fl → ∃ w S2 r τ', ws = [w] ∧ S2.H = S1.H ∧ Stepd X.K σ (tchEs args) S env' Γ1 S2 ∧ r ∈ rs ∧ itT r = some τ' ∧ SeqAt X.K S2 Mb τ' v w := fun S1 ws Fl g1 => by
          obtain ⟨_, l2, _⟩ := g1.tmps.lens
          obtain ⟨w, rfl⟩ := len1 (l := ws) (by simpa using l2)
          obtain ⟨S2, e1, g2, sq⟩ := g1.seqs hit hM
          obtain ⟨r, τ', hr, hτ', sq1⟩ := sq 0 _ _ rfl rfl
          exact ⟨w, S2, r, τ', rfl, e1, g2, List.mem_of_getElem? hr, hτ', sq1⟩
        have rev : ∀ {ys : List PV} {us : List V} {i : Nat} {u : V} {S2 : ASt} {τ' : Tp}, ys.length = us.length → i < us.length → us[us.length - 1 - i]? = some u → (∀ (i : Nat) (u : V), us[i]? = some u → ∃ x, ys[i]? = some x ∧ RepT X.K S2.H S2.Z τ' x u []) → ∃ x, ys.reverse[i]? = some x ∧ RepT X.K S2.H S2.Z τ' x u [] := by
          intro ys us i u S2 τ' hl hi hu h
          obtain ⟨x, hx, rx⟩ := h _ u hu
          refine ⟨x, ?_, rx⟩
          rw [List.getElem?_reverse (by omega), hl]
          exact hx
        cases v <;> simp only [iterP, reduceCtorEq, Res.ok.injEq] at ev2
        · subst ev2
          rename_i ys
          refine .of rule (WE.imp (s1.ok _ env' ev1 (fun ws H1 => ∃ w, ws = [w] ∧ ∃ (p : Addr) (us : List V), w = .ref p ∧ SqT X.K H1 p us ∧ R (RT.ItvT X.K p us.length) H1) fun S1 ws Fl g1 => ?_) fun v H1 ⟨w, e, p, us, e2, h1, h2⟩ => ⟨p, us, by simp at e; rw [e]; exact e2, .inr ⟨h1, h2⟩⟩)
          obtain ⟨w, S2, r, τ', rfl, e1, g2, hr, ht', q1⟩ := one S1 ws Fl g1
          obtain ⟨p, us, rfl, h1, h2, h3⟩ := q1.tup ys rfl
          rw [← e1]
          refine ⟨_, rfl, p, us, rfl, .of (h1 S2.H .refl), hR S2 _ (tE ▸ g2) ⟨fun H => SqT X.K H p us, fun i H x H' => H' = H ∧ us[us.length - 1 - i]? = some x, ?_, fun H' k => ⟨.of (h1 H' k), fun i u H3 hi y => ?_⟩⟩⟩
          · have : ys.reverse.length = us.length := by simp [h2]
            rw [this]
            exact ⟨fun i _ hi q => ⟨hi, us, us[us.length - 1 - i]'(by omega), q, by simp [show us.length - 1 - i < us.length by omega]⟩, fun _ _ => Nat.le_refl _, fun _ _ _ _ _ q y => ⟨y.1, y.2 us q⟩⟩
          · obtain ⟨rfl, hu⟩ := y
            obtain ⟨x, hx, rx⟩ := rev h2 (by simpa [h2] using hi) hu h3
            exact ⟨x, hx, (conv r τ' hr ht' rx).kp g2.ok.zW k, .inl rfl⟩
        · subst ev2
          rename_i ys
          refine .of rule (WE.imp (s1.ok _ env' ev1 (fun ws H1 => ∃ w, ws = [w] ∧ ∃ (p : Addr) (us : List V), w = .ref p ∧ SqL X.K H1 p us ∧ R (Itv X.K p us.length) H1) fun S1 ws Fl g1 => ?_) fun v H1 ⟨w, e, p, us, e2, h1, h2⟩ => ⟨p, us, by simp at e; rw [e]; exact e2, .inl ⟨h1, h2⟩⟩)
          obtain ⟨w, S2, r, τ', rfl, e1, g2, hr, ht', q1⟩ := one S1 ws Fl g1
          obtain ⟨p, us, rfl, h1, h2, h3⟩ := q1.lst ys rfl
          rw [← e1]
          refine ⟨_, rfl, p, us, rfl, .inl (h1 S2.H .refl), hR S2 _ (tE ▸ g2) ⟨fun H => SqL X.K H p us, fun i H x H' => H' = H ∧ us[us.length - 1 - i]? = some x, by rw [show ys.reverse.length = us.length by simp [h2]]; exact walk_rev, fun H' k => ⟨.inl (h1 H' k), fun i u H3 hi y => ?_⟩⟩⟩
          obtain ⟨rfl, hu⟩ := y
          obtain ⟨x, hx, rx⟩ := rev h2 (by simpa [h2] using hi) hu h3
          exact ⟨x, hx, (conv r τ' hr ht' rx).kp g2.ok.zW k, .inl rfl⟩
    · cases ht
end
end OI
set_option maxRecDepth 100000
set_option maxHeartbeats 4000000
/-! OI37: for. -/
namespace OI
open PySem PySem.Spec PyProof.Rows L2
section
variable {T : List FnA} {X : Cx} {K : PySem.W.Frag} {c : Lp} {σ σ' σ2 σ0 : St} {S S' S2 S0 : ASt} {M M' : List Nat} {H H' : Hp} {Z : Addr → Prop}
theorem folded_plain {q : Expr} {env : PySem.Env} (h : plainX q = true) : ∀ x, foldedSetIterable q env x = pure x := by
  intro x
  unfold foldedSetIterable
  cases q <;> first | rfl | (simp [plainX] at h)
/-- at the heap of a turn -/
theorem SGot.turn {e1 : OI.Env} {Γ1 : List Gt} {H3 : Hp} (g : SGot K c M σ0 S0 e1 Γ1 σ S) (h : H3 = S.H ∨ ∃ p u, S.H p = none ∧ H3 = upd S.H p u) : SGot K c M σ0 S0 e1 Γ1 σ (S.atH H3) := by
  rcases h with rfl | ⟨p, u, hp, rfl⟩
  · exact g
  · exact ⟨g.env, g.g, g.stp.trans (.alloc hp), g.ok.alloc hp, g.len, g.sig, g.fix⟩
theorem snd_for {ws : List (Nat × Gt)} {t : Tg} {it : E} {b : List OI.S} (hi : SndI T it) (hb : SndSs T b) : SndS T (.for_ ws t it b) := by
  intro X G ER W k g s he c σ S tr ht o
  cases s <;> simp only [meS, Bool.false_eq_true] at he
  rename_i tg q bs oe spos
  cases oe with
  | cons _ _ => simp at he
  | nil =>
  simp only [Bool.and_eq_true] at he
  obtain ⟨⟨⟨⟨hpx, htg⟩, hmt⟩, hme⟩, hmb⟩ := he
  simp only [typS] at ht
  cases t0 : typI T it S.G with
  | none => simp [t0] at ht
  | some p0 =>
    obtain ⟨τ, ss, Γ0⟩ := p0
    simp only [t0] at ht
    cases t1 : wk ws Γ0 with
    | none => simp [t1] at ht
    | some Γh =>
      simp only [t1] at ht
      split at ht
      · rename_i hc
        simp only [Bool.and_eq_true] at hc
        obtain ⟨hto, hss⟩ := hc
        split at ht
        · rename_i rb tB
          split at ht
          · rename_i hbk
            cases ht
            generalize hMb : ws.map (·.1) ++ (t.slots ++ tchSs b) = Mb at hss
            have mI : ∀ i ∈ tchE it, i ∈ tchS (.for_ ws t it b) := fun i hi => by simp only [tchS]; simp [hi]
            have mB : ∀ i ∈ Mb, i ∈ tchS (.for_ ws t it b) := fun i hi => by
              subst hMb
              simp only [tchS]
              simp only [List.mem_append] at hi ⊢
              rcases hi with h | h | h
              · exact .inl h
              · exact .inr (.inr (.inl h))
              · exact .inr (.inr (.inr h))
            have mw : ∀ i ∈ ws.map (·.1), i ∈ Mb := fun i hi => by subst hMb; exact List.mem_append_left _ hi
            have mt : ∀ i ∈ t.slots, i ∈ Mb := fun i hi => by subst hMb; simp [hi]
            have mb : ∀ i ∈ tchSs b, i ∈ Mb := fun i hi => by subst hMb; simp [hi]
            have hssM : ∀ x ∈ ss, x ∉ Mb := fun x hx hm => by
              have := List.all_eq_true.mp hss x hx
              simp at this
              exact this hm
            have s1 := hi X G ER W k g.toGood tg q hme htg hpx σ S τ ss Γ0 t0 o
            have rule : PS X (.For tg q bs [] spos) (tFor (WI X tg q) (fun v σ H Q => ∃ g, PG X tg g ∧ g v σ H Q) (WSs X bs)) := ps_for g.po g.calm pi_wi pg_any pss_ws (folded_plain hpx)
            have main : ∀ (xs : List PV) (env1 : OI.Env) (res : Res Flow) (D : Ends), res ≠ .stuck → evalIt G it S.env = .ok (xs, env1) → forR t (fun env => evalSs G b env) xs env1 = res →
                (∀ f, res = .ok f → FlowW X.K c (tchS (.for_ ws t it b)) σ S (some Γh) D f) → (∀ x, res = .exc x → XWS ER W σ (tchS (.for_ ws t it b)) S x) → WS X (.For tg q bs [] spos) D σ S.H := by
              intro xs env1 res D hres hev hrun hF hX
              refine .of rule (s1.ok xs env1 hev Mb hssM _ fun S1 J g1 ig => ?_)
              have gS1 : SGot X.K c (tchS (.for_ ws t it b)) σ S env1 Γ0 σ S1 := (SGot.stepd g1).mono mI
              have hF1 : ∀ f, res = .ok f → FlowW X.K c Mb σ S1 (some Γh) D f := fun f e => FlowW.step gS1 mB (hF f e)
              have hX1 : ∀ x, res = .exc x → XWS ER W σ Mb S1 x := fun x e => (hX x e).step gS1.stp rfl (fun _ _ => rfl) mB
              have g1r : SGot X.K c Mb σ S1 env1 Γ0 σ S1 := ⟨g1.env, g1.g, .refl, g1.ok, rfl, fun _ _ => rfl, fun _ _ => rfl⟩
              obtain ⟨S1w, a1, g1w⟩ := g1r.wk t1 mw
              obtain ⟨GG, Y, wlk, hY⟩ := ig.walk
              refine for_it (g := fun v σ H Q => ∃ g, PG X tg g ∧ g v σ H Q) (tb := WSs X bs) (D := D) wlk (fun i σ' H' => ∃ S', S'.H = H' ∧ SGot X.K c Mb σ S1 S'.env Γh σ' S' ∧ forR t (fun env => evalSs G b env) (xs.drop i) S'.env = res) ⟨S1w, a1, ⟨rfl, g1w.g, g1w.stp, g1w.ok, g1w.len, g1w.sig, g1w.fix⟩, by rw [g1w.env]; simpa using hrun⟩ ?_ ?_ ?_
              · rintro i σ' _ hi ⟨S', rfl, g', _⟩
                exact (hY S'.H g'.stp.keep).1
              · rintro i x σ' _ H3 hi ⟨S', rfl, g', hr⟩ y
                obtain ⟨v, hv, rv, hH3⟩ := (hY S'.H g'.stp.keep).2 i x H3 hi y
                have hdrop : xs.drop i = v :: xs.drop (i + 1) := by
                  obtain ⟨hlt, e⟩ := List.getElem?_eq_some_iff.mp hv
                  rw [List.drop_eq_getElem_cons hlt, e]
                rw [hdrop] at hr
                simp only [forR] at hr
                have g3 := g'.turn hH3
                have tm : Tmp X.K (S'.atH H3) τ none v x [] := ⟨rv.keep (W := fun _ => False) .refl (by intro a ha; cases ha) (fun _ _ z => z) (fun a z => g'.stp.z a z), fun _ _ _ h => (nomatch h), fun _ h => (nomatch h), fun _ h => (nomatch h)⟩
                cases hst : storeT t v S'.env with
                | stuck => rw [hst] at hr; exact absurd hr.symm hres
                | exc y => exact absurd hst (storeT_exc t)
                | ok env2 =>
                  rw [hst] at hr
                  simp only [Res.bind] at hr
                  obtain ⟨gg, pg, hq⟩ := store_tg g.nd g.calm t rfl (storeOk_def g.fn) hmt g3 (fun i hi => ⟨mt i hi, ((tgOk_ok hto).2 i hi).2, by rw [g3.g]; exact ((tgOk_ok hto).2 i hi).1⟩) tm (fun _ h => nomatch h) hst
                  refine ⟨gg, pg, hq _ fun σ2 S2 e1 e2 e3 g4 => ?_⟩
                  have sB := hb X G ER W k g bs hmb { c with lp := some Γh, lw := ws } σ2 S2 rb (by rw [g4.g, g3.g]; exact tB) g4.ok
                  have again : ∀ e' σ' S', SGot X.K c Mb σ S1 e' Γh σ' S' → forR t (fun env => evalSs G b env) (xs.drop (i + 1)) e' = res → ∃ S'', S''.H = S'.H ∧ SGot X.K c Mb σ S1 S''.env Γh σ' S'' ∧ forR t (fun env => evalSs G b env) (xs.drop (i + 1)) S''.env = res :=
                    fun e' σ' S' g h => ⟨S', rfl, ⟨rfl, g.g, g.stp, g.ok, g.len, g.sig, g.fix⟩, by rw [g.env]; exact h⟩
                  cases hbe : evalSs G b env2 with
                  | stuck => rw [hbe] at hr; exact absurd hr.symm hres
                  | exc y =>
                    rw [hbe] at hr
                    exact sB.exc y (by rw [g4.env]; exact hbe) _ ((hX1 y hr.symm).step g4.stp g4.len g4.sig mb)
                  | ok f1 =>
                    rw [hbe] at hr
                    refine sB.ok f1 (by rw [g4.env]; exact hbe) _ (FlowW.body (tr := some Γh) g4 mb mw hbk (fun e' σ' S' hf g5 => ?_) (fun e' σ' S' hf g5 => ?_) fun v' e' hf => ?_)
                    · rcases hf with rfl | rfl
                      · exact again e' σ' S' g5 hr
                      · exact again e' σ' S' g5 hr
                    · subst hf
                      exact hF1 _ hr.symm Γh σ' S' rfl g5
                    · subst hf
                      exact hF1 _ hr.symm
              · rintro σ' _ ⟨S', rfl, g', hr⟩
                rw [List.drop_length] at hr
                exact hF1 _ hr.symm Γh σ' S' rfl g'
            have split : ∀ res, evalS G (.for_ ws t it b) S.env = res → res ≠ .stuck → (∃ x, res = .exc x ∧ evalE G it S.env = .exc x) ∨ ∃ xs env1, evalIt G it S.env = .ok (xs, env1) ∧ forR t (fun env => evalSs G b env) xs env1 = res := by
              intro res hev hres
              simp only [evalS] at hev
              cases h1 : evalE G it S.env with
              | stuck => rw [h1] at hev; exact absurd hev.symm hres
              | exc x => rw [h1] at hev; exact .inl ⟨x, hev.symm, rfl⟩
              | ok p =>
                rw [h1] at hev
                simp only [Res.bind] at hev
                cases h2 : itemsOf p.1 with
                | stuck => rw [h2] at hev; exact absurd hev.symm hres
                | exc x => exact absurd h2 itemsOf_exc
                | ok xs =>
                  rw [h2] at hev
                  exact .inr ⟨xs, p.2, by unfold evalIt; rw [h1]; simp only [Res.bind]; rw [h2], hev⟩
            refine ⟨fun f ev D hD => ?_, fun x ev D hx => ?_⟩
            · rcases split _ ev (by simp) with ⟨x, e, _⟩ | ⟨xs, env1, h1, h2⟩
              · cases e
              · exact main xs env1 _ D (by simp) h1 h2 (fun f' e => by cases e; exact hD) (fun x e => by cases e)
            · rcases split _ ev (by simp) with ⟨y, e, h1⟩ | ⟨xs, env1, h1, h2⟩
              · cases e
                exact .of rule (s1.exc _ h1 _ (hx.xw.mono mI))
              · exact main xs env1 _ D (by simp) h1 h2 (fun f' e => by cases e) (fun x' e => by cases e; exact hx)
          · cases ht
        · cases ht
      · cases ht
end
end OI
set_option maxRecDepth 100000
set_option maxHeartbeats 4000000
/-! OI38: within a comprehension. -/
namespace OI
open PySem PySem.Spec PyProof.Rows L2
section
variable {T : List FnA} {X : Cx} {K : PySem.W.Frag} {c : Lp} {σ σ' σ2 σ0 : St} {S S' S2 S0 : ASt} {M M' : List Nat} {H H' : Hp} {Z : Addr → Prop}
theorem wipe_at {σ : St} {j : Nat} : ∀ {vs : List Nat}, (wipe σ vs)[j]? = if j ∈ vs then (σ[j]?).map (fun _ => none) else σ[j]?
  | [] => by simp [wipe]
  | v :: vs => by
    unfold wipe
    by_cases e : v = j
    · subst e
      rw [if_pos (by simp)]
      by_cases h : v < σ.length
      · rw [List.getElem?_set_self (by rw [wipe_length]; exact h), List.getElem?_eq_getElem h]; rfl
      · rw [List.getElem?_eq_none (by simpa [wipe_length] using h), List.getElem?_eq_none (by simpa using h)]; rfl
    · rw [List.getElem?_set_ne e, wipe_at (vs := vs)]
      have : (j ∈ v :: vs) ↔ j ∈ vs := by simp [Ne.symm e]
      by_cases h : j ∈ vs
      · rw [if_pos h, if_pos (this.mpr h)]
      · rw [if_neg h, if_neg fun q => h (this.mp q)]
theorem wipeV_at {j : Nat} : ∀ {vs : List Nat} {env : OI.Env}, (wipeV vs env)[j]? = if j ∈ vs then (env[j]?).map (fun _ => none) else env[j]?
  | [], env => by simp [wipeV]
  | v :: vs, env => by
    simp only [wipeV]
    rw [wipeV_at (vs := vs), setV_at]
    by_cases e : j = v
    · subst e
      simp
      cases env[j]? <;> simp
    · have : (j ∈ v :: vs) ↔ j ∈ vs := by simp [e]
      rw [if_neg e]
      by_cases h : j ∈ vs
      · rw [if_pos h, if_pos (this.mpr h)]
      · rw [if_neg h, if_neg fun q => h (this.mp q)]
theorem wipeV_len : ∀ {vs : List Nat} {env : OI.Env}, (wipeV vs env).length = env.length
  | [], _ => rfl
  | v :: vs, env => by simp only [wipeV]; rw [wipeV_len, setV_len]
theorem restore_at {old : OI.Env} {j : Nat} : ∀ {is : List Nat} {env : OI.Env}, old.length = env.length → (restore old is env)[j]? = if j ∈ is then old[j]? else env[j]?
  | [], env, _ => by simp [restore]
  | i :: is, env, h => by
    simp only [restore]
    rw [restore_at (is := is) (by rw [setV_len]; exact h), setV_at]
    by_cases e : j = i
    · subst e
      by_cases hm : j ∈ is
      · simp [hm]
      · rw [if_neg hm, if_pos rfl, if_pos (by simp)]
        by_cases hl : j < env.length
        · have hl2 : j < old.length := by omega
          rw [List.getElem?_eq_getElem hl, List.getElem?_eq_getElem hl2]
          simp
        · have hl2 : ¬ j < old.length := by omega
          rw [List.getElem?_eq_none (l := env) (by omega), List.getElem?_eq_none (l := old) (by omega)]; rfl
    · have : (j ∈ i :: is) ↔ j ∈ is := by simp [e]
      rw [if_neg e]
      by_cases hm : j ∈ is
      · rw [if_pos hm, if_pos (this.mpr hm)]
      · rw [if_neg hm, if_neg fun q => hm (this.mp q)]
theorem deadT_cons {i : Nat} {L : List Nat} {Γ : List Gt} : deadT (i :: L) Γ = deadT L (setT i (.t .cl) Γ) := rfl
theorem deadT_len : ∀ {L : List Nat} {Γ : List Gt}, (deadT L Γ).length = Γ.length
  | [], _ => rfl
  | i :: L, Γ => by rw [deadT_cons, deadT_len, setT_len]
theorem deadT_t {j : Nat} {τ : Tp} : ∀ {L : List Nat} {Γ : List Gt}, j ∉ L → ((deadT L Γ)[j]? = some (.t τ) ↔ Γ[j]? = some (.t τ))
  | [], _, _ => Iff.rfl
  | i :: L, Γ, h => by
    simp only [List.mem_cons, not_or] at h
    rw [deadT_cons, deadT_t h.2, setT_ne h.1, killA_t]
theorem deadT_al {y x : Nat} {ks : List Kc} : ∀ {L : List Nat} {Γ : List Gt}, y ∉ L → x ∉ L → ((deadT L Γ)[y]? = some (.al x ks) ↔ Γ[y]? = some (.al x ks))
  | [], _, _, _ => Iff.rfl
  | i :: L, Γ, h, h' => by
    simp only [List.mem_cons, not_or] at h h'
    rw [deadT_cons, deadT_al h.2 h'.2, setT_ne h.1, killA_al]
    exact ⟨fun q => q.1, fun q => ⟨q, h'.1⟩⟩
/-- slots hidden -/
theorem hide : ∀ {L : List Nat} {σ : St} {S : ASt}, Ok K σ S → (∀ i ∈ L, i < S.G.length) → ∃ S', S'.env = wipeV L S.env ∧ S'.G = deadT L S.G ∧ S'.H = S.H ∧ S'.Z = S.Z ∧ (∀ j, S'.Fs j = if j ∈ L then [] else S.Fs j) ∧ Ok K (wipe σ L) S' := by
  intro L
  have key : ∀ {L : List Nat} {σ : St} {S : ASt}, Ok K σ S → (∀ i ∈ L, i < S.G.length) → ∃ σ' S', σ'.length = σ.length ∧ (∀ j : Nat, σ'[j]? = if j ∈ L then (σ[j]?).map (fun _ => none) else σ[j]?) ∧ S'.env = wipeV L S.env ∧ S'.G = deadT L S.G ∧ S'.H = S.H ∧ S'.Z = S.Z ∧ (∀ j, S'.Fs j = if j ∈ L then [] else S.Fs j) ∧ Ok K σ' S' := by
    intro L
    induction L with
    | nil => intro σ S o _; exact ⟨σ, S, rfl, fun j => by simp, rfl, rfl, rfl, rfl, fun j => by simp, o⟩
    | cons i L ih =>
      intro σ S o hl
      have o1 := o.put (σ' := σ.set i none) (i := i) (env' := setV S.env i none) (g := .t .cl) (F := []) (Z' := S.Z) (hl i (by simp)) (by rw [setV_len, List.length_set]; exact o.len) (fun j hj => by rw [setV_at, if_neg hj]) (fun j hj => by rw [List.getElem?_set_ne (Ne.symm hj)]) (fun _ _ h => nomatch h)
        (fun τ' v e1 e2 => by
          rw [setV_at, if_pos rfl] at e2
          cases h : S.env[i]? <;> simp [h] at e2) (fun _ => rfl) (fun _ z => z) (fun _ z => .inl z) (fun _ h => nomatch h)
      obtain ⟨σ', S', a1, a2, a3, a4, a5, a6, a7, a8⟩ := ih o1 (fun j hj => by
        show j < (setT i _ S.G).length
        rw [setT_len]; exact hl j (by simp [hj]))
      refine ⟨σ', S', by simpa using a1, fun j => ?_, by rw [a3]; rfl, by rw [a4]; rfl, a5, a6, fun j => ?_, a8⟩
      · rw [a2]
        by_cases e : j = i
        · subst e
          simp only [List.mem_cons, true_or, if_true]
          by_cases h : j < σ.length
          · rw [List.getElem?_set_self h, List.getElem?_eq_getElem h]; split <;> rfl
          · rw [List.getElem?_eq_none (by simpa using h), List.getElem?_eq_none (by simpa using h)]; split <;> rfl
        · rw [List.getElem?_set_ne (Ne.symm e)]
          have : (j ∈ i :: L) ↔ j ∈ L := by simp [e]
          by_cases hm : j ∈ L
          · rw [if_pos hm, if_pos (this.mpr hm)]
          · rw [if_neg hm, if_neg fun q => hm (this.mp q)]
      · rw [a7]
        show (if j ∈ L then [] else if j = i then [] else S.Fs j) = _
        by_cases e : j = i
        · subst e; simp
        · rw [if_neg e]
          have : (j ∈ i :: L) ↔ j ∈ L := by simp [e]
          by_cases hm : j ∈ L
          · rw [if_pos hm, if_pos (this.mpr hm)]
          · rw [if_neg hm, if_neg fun q => hm (this.mp q)]
  intro σ S o hl
  obtain ⟨σ', S', a1, a2, a3, a4, a5, a6, a7, a8⟩ := key o hl
  have e : σ' = wipe σ L := List.ext_getElem? fun j => by rw [a2, wipe_at]
  subst e
  exact ⟨S', a3, a4, a5, a6, a7, a8⟩
/-- more is frozen -/
theorem Ok.zext {Z' : Addr → Prop} (o : Ok K σ S) (hz : ∀ a, S.Z a → Z' a) (hZ : ∀ a, Z' a → S.Z a ∨ (S.H a ≠ none ∧ ∀ i, a ∉ S.Fs i)) : Ok K σ { S with Z := Z' } where
  len := o.len
  slot := fun i τ v h1 h2 => let ⟨w, e, r⟩ := o.slot i τ v h1 h2; ⟨w, e, r.keep (W := fun _ => False) .refl (fun _ _ z => z) (fun _ _ z => z) hz⟩
  no := o.no
  al := o.al
  apart := o.apart
  nz := fun i a ha z => (hZ a z).elim (o.nz i a ha) fun q => q.2 i ha
  trk := o.trk
  ztr := fun a z => (hZ a z).elim (o.ztr a) fun q => q.1
/-! ### the context of the block -/
theorem lookup_relS {scope sc : Scope} {x : Str} : ∀ {names : List (Str × NameKind)} {kd : NameKind}, names.lookup x = some kd → kd ≠ .free → (names.map fun (n, k) => if (k == .free && sc.kind == .function && sc.names.lookup n == some .cell) then (n, .cell) else (n, k)).lookup x = some kd
  | [], _, h, _ => by simp at h
  | (n, k) :: r, kd, h, hk => by
    simp only [List.lookup_cons] at h
    rw [List.map_cons]
    show List.lookup x ((if (k == .free && sc.kind == .function && sc.names.lookup n == some .cell) = true then (n, NameKind.cell) else (n, k)) :: _) = _
    by_cases e : x = n
    · subst e
      simp at h
      subst h
      have : (k == NameKind.free) = false := by cases k <;> first | rfl | exact absurd rfl hk
      simp [this]
    · have e1 : (x == n) = false := by simpa using e
      rw [e1] at h
      have ih := lookup_relS (scope := scope) (sc := sc) h hk
      by_cases hc : (k == .free && sc.kind == .function && sc.names.lookup n == some .cell) = true
      · rw [if_pos hc]; simp only [List.lookup_cons, e1]; exact ih
      · rw [if_neg hc]; simp only [List.lookup_cons, e1]; exact ih
/-- within the block -/
abbrev blkX (X : Cx) (scope : Scope) (s : Shared) (H : Hp) (C : Addr) (cl : List (Str × Addr)) (fp : List Addr) : Cx := X.blk s H scope (compEnvC scope cl C X.env) fp
theorem blk_scope {scope : Scope} {s : Shared} {H : Hp} {C : Addr} {cl : List (Str × Addr)} {fp : List Addr} : (blkX X scope s H C cl fp).env.scope = relS scope X.env.scope := rfl
theorem blk_store {scope : Scope} {s : Shared} {H : Hp} {C : Addr} {cl : List (Str × Addr)} {fp : List Addr} : StoreOk (blkX X scope s H C cl fp) scope := fun x hx => by
  rcases locB_ok hx with h | h
  · have := lookup_relS (scope := scope) (sc := X.env.scope) h (by decide)
    exact ⟨.inl this, .inr this⟩
  · have := lookup_relS (scope := scope) (sc := X.env.scope) h (by decide)
    exact ⟨.inr this, .inl (by show (scope.names.lookup x == some .cell) = true; rw [h]; rfl)⟩
theorem blk_good {G : Ctx} {ER : ERel} {W : WX} {k : Nat} {scope : Scope} {s : Shared} {H : Hp} {C : Addr} {cl : List (Str × Addr)} {fp : List Addr} (g : Good X T G ER W k) (hk : scope.kind = .function) : Good (blkX X scope s H C cl fp) T G ER (fun _ _ _ _ => False) k where
  calm := g.calm
  room := g.room
  nd := g.nd
  tk := takes0
  kind := hk
  free := g.free
  isin := g.isin
  tys := g.tys
  fns := ⟨g.fns.sig, g.fns.fn⟩
  gls := g.gls
end
end OI
set_option maxRecDepth 100000
set_option maxHeartbeats 4000000
/-! OI39: list comprehensions. -/
namespace OI
open PySem PySem.Spec PyProof.Rows L2
section
variable {T : List FnA} {X : Cx} {K : PySem.W.Frag} {c : Lp} {σ σ' σ2 σ0 : St} {S S' S2 S0 : ASt} {M M' : List Nat} {H H' : Hp} {Z : Addr → Prop}
def gA (X : Cx) (scope : Scope) (tg : Expr) : TG := fun v σ H Q => ∀ s H0 C cl fp, ∃ gg, PG (blkX X scope s H0 C cl fp) tg gg ∧ gg v σ H Q
def tA (X : Cx) (scope : Scope) : List Expr → TT
  | [] => tYes
  | q :: _ => fun σ H Q => ∀ s H0 C cl fp, WT (blkX X scope s H0 C cl fp) q σ H Q
def eA (X : Cx) (scope : Scope) (q : Expr) : TE := fun σ H Q => ∀ s H0 C cl fp, WE (blkX X scope s H0 C cl fp) q σ H Q
theorem pg_A {scope : Scope} {tg : Expr} (s : Shared) (H : Hp) (C : Addr) (cl : List (Str × Addr)) (fp : List Addr) : PG (X.blk s H scope (compEnvC scope cl C X.env) fp) tg (gA X scope tg) :=
  ⟨fun pins s' σ H' v u Q I r h => by obtain ⟨gg, pg, h⟩ := h s H C cl fp; exact pg.run pins s' σ H' v u Q I r h⟩
theorem pe_A {scope : Scope} {q : Expr} (s : Shared) (H : Hp) (C : Addr) (cl : List (Str × Addr)) (fp : List Addr) : PE (X.blk s H scope (compEnvC scope cl C X.env) fp) q (eA X scope q) :=
  ⟨fun pins s' σ H' Q I h => h s H C cl fp pins s' I⟩
theorem pts_A {scope : Scope} {ifs : List Expr} (hl : ifs.length ≤ 1) (s : Shared) (H : Hp) (C : Addr) (cl : List (Str × Addr)) (fp : List Addr) : PTs (X.blk s H scope (compEnvC scope cl C X.env) fp) ifs (tA X scope ifs) := by
  match ifs, hl with
  | [], _ => exact pts_nil
  | [q], _ => exact pts_one ⟨fun pins s' σ H' Q I h => h s H C cl fp pins s' I⟩
/-- an item's turn -/
def lcB (G : Ctx) (cs : List E) (elt : E) (env : OI.Env) (acc : List PV) : Res (List PV × OI.Env) := (evalAll G cs env).bind fun c => if c.1 = true then (evalE G elt c.2).bind fun v => need (acc.length < 16777216) (.ok (acc ++ [v.1], v.2)) else .ok (acc, c.2)
def LcP (X : Cx) (G : Ctx) (t : Tg) (cs : List E) (elt : E) (d : Nat) (Mb : List Nat) (Sw : ASt) (Γw : List Gt) (σw : St) (D : Addr) (accf : List PV) (envf : OI.Env) (xs : List PV) (i : Nat) (H : Hp) : Prop :=
  ∃ (S' : ASt) (acc : List PV) (envI : OI.Env) (F : List Addr), S'.H = H ∧ SGot X.K {} Mb σw Sw S'.env Γw σw S' ∧ S'.env = wipeV t.slots envI ∧ Tmp X.K S' (.d d) none (.lst acc) (.ref D) F ∧ (∀ a ∈ F, Sw.H a = none ∨ Wr Mb Sw a) ∧ compLoop (lcB G cs elt) t t.slots (xs.drop i) envI acc = .ok (accf, envf)
theorem noExc_exc {α : Type} {r : Res α} {x : PV} : noExc r ≠ .exc x := by cases r <;> simp [noExc]
theorem useAt_len {q : TR} {m : Nat} (h : useAt m q = true) : (Mut.append).takes m [q] = true := h
/-- one turn -/
theorem lc_turn {G : Ctx} {ER : ERel} {W : WX} {k : Nat} {scope : Scope} {t : Tg} {tg qe : Expr} {ifs : List Expr} {cs : List E} {elt : E} {d : Nat} {Mb : List Nat} {Sw : ASt} {Γw : List Gt} {σw : St} {D : Addr} {accf : List PV} {envf : OI.Env} {xs : List PV} {i : Nat} {τ : Tp} {qr : TR} {x : V} {H H3 : Hp}
    (g : Good X T G ER W k) (hk : scope.kind = .function) (hmt : meT X.N scope t tg = true) (hcs : meEs T X.N (relS scope X.env.scope) cs ifs = true) (helt : meE T X.N (relS scope X.env.scope) elt qe = true) (hl : ifs.length ≤ 1) (hcT : ∀ c ∈ cs, SndT T c) (heE : SndE T elt)
    (hd : 0 < d) (hall : typAll T cs (typT t τ Γw) = true) (hte : typE T elt (typT t τ Γw) = some (qr, typT t τ Γw)) (hua : useAt (d - 1) qr = true) (hwk : deadT t.slots (typT t τ Γw) = Γw) (hlen : ∀ i ∈ t.slots, i < Γw.length) (hMb : ∀ j, j ∈ t.slots ∨ j ∈ tchE elt ∨ j ∈ tchEs cs → j ∈ Mb) (hwσ : wipe σw t.slots = σw)
    {S' : ASt} {acc : List PV} {envI : OI.Env} {F : List Addr} (eH : S'.H = H) (gS : SGot X.K {} Mb σw Sw S'.env Γw σw S') (eE : S'.env = wipeV t.slots envI) (tm : Tmp X.K S' (.d d) none (.lst acc) (.ref D) F) (new : ∀ a ∈ F, Sw.H a = none ∨ Wr Mb Sw a) (hrun : compLoop (lcB G cs elt) t t.slots (xs.drop i) envI acc = .ok (accf, envf))
    {v : PV} (hv : xs[i]? = some v) (rv : RepT X.K H3 S'.Z τ v x []) (hH3 : H3 = H ∨ ∃ p u, H p = none ∧ H3 = upd H p u) :
    gA X scope tg x σw H3 fun σ2 H2 => wipe σ2 t.slots = wipe σw t.slots ∧ tA X scope ifs σ2 H2 fun b H3 => if b = true then eA X scope qe σ2 H3 fun y H4 => ∃ ac, H4 D = some (.lst ac) ∧ ac.length < sizeLine ∧ LcP X G t cs elt d Mb Sw Γw σw D accf envf xs (i + 1) (upd H4 D (.lst (ac ++ [y]))) else LcP X G t cs elt d Mb Sw Γw σw D accf envf xs (i + 1) H3 := by
  subst eH
  have hdrop : xs.drop i = v :: xs.drop (i + 1) := by
    obtain ⟨hlt, e⟩ := List.getElem?_eq_some_iff.mp hv
    rw [List.drop_eq_getElem_cons hlt, e]
  rw [hdrop] at hrun
  simp only [compLoop] at hrun
  obtain ⟨env1, hst, hrun⟩ := Res.bind_ok.mp hrun
  obtain ⟨⟨acc2, env2⟩, hbody, hrun⟩ := Res.bind_ok.mp hrun
  rw [← eE] at hst
  -- at the turn's heap
  have gT : SGot X.K {} Mb σw Sw S'.env Γw σw (S'.atH H3) := gS.turn hH3
  have tm3 : Tmp X.K (S'.atH H3) (.d d) none (.lst acc) (.ref D) F := by
    rcases hH3 with rfl | ⟨p, u, hp, rfl⟩
    · exact tm
    · exact tm.step (M := []) gS.ok (.alloc hp) fun x e => nomatch e
  have tv : Tmp X.K (S'.atH H3) τ none v x [] := ⟨rv, fun _ _ _ h => (nomatch h), fun _ h => (nomatch h), fun _ h => (nomatch h)⟩
  have g0 : SGot X.K {} t.slots σw (S'.atH H3) S'.env Γw σw (S'.atH H3) := ⟨rfl, gS.g, .refl, gT.ok, rfl, fun _ _ => rfl, fun _ _ => rfl⟩
  intro s H0 C cl fp
  obtain ⟨gg, pg, hq⟩ := store_tg (X := blkX X scope s H0 C cl fp) (c := {}) g.nd g.calm t rfl blk_store hmt g0 (fun j hj => ⟨hj, by simp, by rw [gT.g]; exact hlen j hj⟩) tv (fun _ h => nomatch h) hst
  refine ⟨gg, pg, hq _ fun σ2 S2 e1 e2 e3 g2 => ?_⟩
  have eG : (S'.atH H3).G = Γw := gS.g
  rw [eG] at g2
  have hw2 : wipe σ2 t.slots = wipe σw t.slots := List.ext_getElem? fun j => by
    rw [wipe_at, wipe_at]
    by_cases hj : j ∈ t.slots
    · rw [if_pos hj, if_pos hj]
      by_cases hl : j < σw.length
      · have hl2 : j < σ2.length := by rw [g2.len]; exact hl
        rw [List.getElem?_eq_getElem hl, List.getElem?_eq_getElem hl2]; rfl
      · have hl2 : ¬ j < σ2.length := by rw [g2.len]; exact hl
        rw [List.getElem?_eq_none (by omega), List.getElem?_eq_none (by omega)]
    · rw [if_neg hj, if_neg hj, g2.sig j hj]
  refine ⟨hw2, ?_⟩
  have mS : ∀ j ∈ t.slots, j ∈ Mb := fun j hj => hMb j (.inl hj)
  have g2w : SGot X.K {} Mb σw Sw env1 (typT t τ Γw) σ2 S2 := gT.trans (g2.mono mS)
  have tm2 : Tmp X.K S2 (.d d) none (.lst acc) (.ref D) F := tm3.step gT.ok g2.stp fun x e => nomatch e
  -- a state behind the item's work: hidden again
  have close : ∀ (S3 : ASt) (env3 : OI.Env), SGot X.K {} Mb σw Sw env3 (typT t τ Γw) σ2 S3 → ∃ S4, S4.H = S3.H ∧ S4.Z = S3.Z ∧ (∀ j, S4.Fs j = if j ∈ t.slots then [] else S3.Fs j) ∧ S4.env = wipeV t.slots env3 ∧ SGot X.K {} Mb σw Sw S4.env Γw σw S4 := fun S3 env3 g3 => by
    obtain ⟨S4, a1, a2, a3, a4, a5, a6⟩ := hide (L := t.slots) g3.ok (fun j hj => by rw [g3.g, typT_len]; exact hlen j hj)
    rw [hw2, hwσ] at a6
    refine ⟨S4, a3, a4, a5, by rw [a1, g3.env], rfl, by rw [a2, g3.g, hwk], ⟨fun j hj => ?_, fun j hj => ?_, by rw [a3]; exact g3.stp.keep, fun a z => by rw [a4]; exact g3.stp.z a z, fun a z => by rw [a4] at z; exact g3.stp.znew a z, fun j a ha => ?_, fun a z => by rw [a3]; exact g3.stp.live a z⟩, a6, rfl, fun _ _ => rfl, fun _ e => nomatch e⟩
    · have hn : j ∉ t.slots := fun h => hj (mS j h)
      rw [a1, wipeV_at, if_neg hn]; exact g3.stp.env j hj
    · have hn : j ∉ t.slots := fun h => hj (mS j h)
      rw [a5, if_neg hn]; exact g3.stp.fs j hj
    · rw [a5] at ha
      split at ha
      · cases ha
      · exact g3.stp.fnew j a ha
  have keepT : ∀ (S3 S4 : ASt) (F : List Addr) (v : PV) (w : V) (τ : Tp), S4.H = S3.H → S4.Z = S3.Z → (∀ j, S4.Fs j = if j ∈ t.slots then [] else S3.Fs j) → Tmp X.K S3 τ none v w F → Tmp X.K S4 τ none v w F := fun S3 S4 F v w τ h1 h2 h3 tm =>
    ⟨by rw [h1, h2]; exact tm.rep, fun _ j a ha hb => by
      rw [h3] at hb
      split at hb
      · cases hb
      · exact tm.own rfl j a ha hb, fun _ h => (nomatch h), fun a ha => by rw [h2]; exact tm.nz a ha⟩
  -- the item itself
  have item : ∀ (S3 : ASt) (env3 : OI.Env), SGot X.K {} Mb σw Sw env3 (typT t τ Γw) σ2 S3 → Tmp X.K S3 (.d d) none (.lst acc) (.ref D) F → ((evalE G elt env3).bind fun v => need (acc.length < 16777216) (.ok (acc ++ [v.1], v.2))) = .ok (acc2, env2) →
      eA X scope qe σ2 S3.H fun y H4 => ∃ ac, H4 D = some (.lst ac) ∧ ac.length < sizeLine ∧ LcP X G t cs elt d Mb Sw Γw σw D accf envf xs (i + 1) (upd H4 D (.lst (ac ++ [y]))) := by
    intro S3 env3 g3 t3 hev s H0 C cl fp
    obtain ⟨⟨y, env4⟩, hy, hev⟩ := Res.bind_ok.mp hev
    obtain ⟨hsz, hev⟩ := need_ok.mp hev
    simp only [Res.ok.injEq, Prod.mk.injEq] at hev
    obtain ⟨rfl, rfl⟩ := hev
    have gb := blk_good (s := s) (H := H0) (C := C) (cl := cl) (fp := fp) g hk
    have sE := snd_iff.mp heE (blkX X scope s H0 C cl fp) G ER _ k gb qe helt σ2 S3 qr (typT t τ Γw) (by rw [g3.g]; exact hte) g3.ok
    refine sE.ok y env4 (by rw [g3.env]; exact hy) _ fun S4 w Fv g4 => ?_
    have g4w : SGot X.K {} Mb σw Sw env4 (typT t τ Γw) σ2 S4 := g3.trans ((SGot.ofGot (c := {}) (M := tchE elt) g4 fun _ h => h).mono fun j hj => hMb j (.inr (.inl hj)))
    have t4 : Tmp X.K S4 (.d d) none (.lst acc) (.ref D) F := t3.step g3.ok g4.stp fun x e => nomatch e
    obtain ⟨S5, b1, b2, b3, b4, g5⟩ := close S4 env4 g4w
    have t5 : Tmp X.K S5 (.d d) none (.lst acc) (.ref D) F := keepT S4 S5 F _ _ _ b1 b2 b3 t4
    -- the item's value at S5: borrowed ones are clean
    have hq2 : qr.1 = .cl ∨ qr.2 = none := useAt_src hua
    have ty : Tmp X.K S5 qr.1 none y w Fv := by
      have own : ∀ j, ∀ a ∈ Fv, a ∉ S4.Fs j := fun j a ha => by
        rcases hq2 with e | e
        · have := g4.tmp.rep; rw [e] at this; rw [this.1] at ha; cases ha
        · exact g4.tmp.own e j a ha
      exact keepT S4 S5 Fv _ _ _ b1 b2 b3 ⟨g4.tmp.rep, fun _ => own, fun _ h => (nomatch h), g4.tmp.nz⟩
    have newv : ∀ a ∈ Fv, Sw.H a = none ∨ Wr Mb Sw a := fun a ha => by
      have n4 : S3.H a = none ∨ Wr (tchE elt) S3 a := by
        rcases hq2 with e | e
        · have := g4.tmp.rep; rw [e] at this; rw [this.1] at ha; cases ha
        · exact g4.new e a ha
      rcases n4 with z | ⟨j, hj, z⟩
      · refine .inl ?_
        cases q : Sw.H a with
        | none => rfl
        | some u => exact absurd z (g3.stp.live a (by simp [q]))
      · rcases g3.stp.fnew j a z with z | z | z
        · exact .inr ⟨j, hMb j (.inr (.inl hj)), z⟩
        · exact .inl z
        · exact .inr z
    have dj : ∀ a ∈ Fv, a ∉ F := fun a ha hb => by
      rcases hq2 with e | e
      · have := g4.tmp.rep; rw [e] at this; rw [this.1] at ha; cases ha
      · obtain ⟨ob, eo, _⟩ := t3.rep.trk a hb
        rcases g4.new e a ha with z | ⟨j, hj, z⟩
        · rw [eo] at z; cases z
        · exact t3.own rfl j a hb z
    have ed : d - 1 + 1 = d := by omega
    have rep : Rep X.K S5.H S5.Z (d - 1 + 1) (.lst acc) (.ref D) F := by rw [ed]; exact t5.rep
    have tms : Tmps X.K S5 [(qr.1, none)] [y] [w] [Fv] := .cons ty .nil fun _ _ h => nomatch h
    have hmu : mutP .append (.lst acc) [y] = .ok (.lst (acc ++ [y]), .non) := by simp only [mutP]; exact need_ok.mpr ⟨hsz, rfl⟩
    have hua2 : useAt (d - 1) (qr.1, none) = true := by
      unfold useAt at hua ⊢
      cases e : qr.1 with
      | cl => rfl
      | d n =>
        rw [e] at hua
        simp only [Bool.and_eq_true] at hua
        simp [hua.2]
    have mv := mut_val S5 hmu rep t5.nz tms hua2 (fun a ha hb => by simp only [handOf] at ha; exact dj a ha hb)
    have fin := mv (fun w' H' => LcP X G t cs elt d Mb Sw Γw σw D accf envf xs (i + 1) H') fun w' H' Z' Fu' Fv' kp live hz hZ rep' rv' hFu hnz hFv => by
      have handF : ∀ a ∈ Fv, (∀ j, a ∉ S5.Fs j) ∧ ¬ S5.Z a ∧ S5.H a ≠ none := fun a ha => ⟨fun j => ty.own rfl j a ha, ty.nz a ha, by obtain ⟨ob, eo, _⟩ := ty.rep.trk a ha; rw [eo]; simp⟩
      have hZ' : ∀ a, Z' a → S5.Z a ∨ a ∈ Fv := fun a z => by simpa only [handOf] using hZ a z
      have okH : Ok X.K σw (S5.atH H') := g5.ok.atK kp live fun a ha => ⟨fun j => t5.own rfl j a ha, t5.nz a ha⟩
      have okZ := okH.zext (Z' := Z') hz (fun a z => (hZ' a z).imp id fun hm => ⟨live a (handF a hm).2.2, (handF a hm).1⟩)
      refine ⟨{ (S5.atH H') with Z := Z' }, acc ++ [y], env4, Fu', rfl, ⟨rfl, g5.g, ⟨g5.stp.env, g5.stp.fs, fun a ob e q => ?_, fun a z => hz a (g5.stp.z a z), fun a z => ?_, g5.stp.fnew, fun a z => live a (g5.stp.live a z)⟩, okZ, rfl, fun _ _ => rfl, fun _ e => nomatch e⟩, by show S5.env = _; exact b4, ⟨?_, fun _ j a ha hb => ?_, fun _ h => (nomatch h), hnz⟩, fun a ha => ?_, hrun⟩
      · have e5 := g5.stp.keep a ob e q
        refine kp a ob e5 (q.imp id fun n hb => ?_)
        rcases new a hb with z | z
        · rw [e] at z; cases z
        · exact n z
      · rcases hZ' a z with z | z
        · exact g5.stp.znew a z
        · exact .inr (newv a z)
      · have : Rep X.K H' Z' (d - 1 + 1) (.lst (acc ++ [y])) (.ref D) Fu' := rep'
        rw [ed] at this; exact this
      · have hb : a ∈ S5.Fs j := hb
        rcases hFu a ha with z | z
        · exact t5.own rfl j a z hb
        · exact (handF a (by simpa only [handOf] using z)).1 j hb
      · rcases hFu a ha with z | z
        · exact new a z
        · exact newv a (by simpa only [handOf] using z)
    have fin : rAppend (.ref D) [w] S5.H (fun w' H' => LcP X G t cs elt d Mb Sw Γw σw D accf envf xs (i + 1) H') := fin
    obtain ⟨l, ws, w0, e1, e2, h1, h2, h3⟩ := fin
    cases e1
    cases e2
    rw [b1] at h1
    refine ⟨ws, h1, h2, ?_⟩
    rw [b1] at h3
    exact h3
  -- the tests
  match cs, ifs, hl, hcs, hcT, hall with
  | [], [], _, _, _, _ =>
    simp only [tA, tYes, if_true]
    refine item S2 env1 g2w tm2 ?_
    simpa only [lcB, evalAll, Res.bind, if_true] using hbody
  | [c1], [q1], _, hcs, hcT, hall =>
    intro s H0 C cl fp
    have gb := blk_good (s := s) (H := H0) (C := C) (cl := cl) (fp := fp) g hk
    simp only [meEs, Bool.and_true, Bool.and_eq_true] at hcs
    obtain ⟨r1, ht1⟩ := typAll_one hall
    have sT := hcT c1 (by simp) (blkX X scope s H0 C cl fp) G ER _ k gb q1 hcs.2 σ2 S2 r1 (typT t τ Γw) (by rw [g2w.g]; exact ht1) g2w.ok
    simp only [lcB, evalAll] at hbody
    obtain ⟨⟨b, env3⟩, hc, hbody⟩ := Res.bind_ok.mp hbody
    obtain ⟨⟨vc, env3'⟩, hc1, hc⟩ := Res.bind_ok.mp hc
    obtain ⟨tb, htr, hc⟩ := Res.bind_ok.mp hc
    have e3 : b = tb ∧ env3 = env3' := by
      cases tb with
      | true => rw [if_pos rfl] at hc; simp only [Res.ok.injEq, Prod.mk.injEq] at hc; exact ⟨hc.1.symm, hc.2.symm⟩
      | false => rw [if_neg (by decide)] at hc; simp only [Res.ok.injEq, Prod.mk.injEq] at hc; exact ⟨hc.1.symm, hc.2.symm⟩
    obtain ⟨rfl, rfl⟩ := e3
    refine sT.ok vc env3 b (by rw [g2w.env]; exact hc1) htr _ fun S3 g3 => ?_
    have g3w : SGot X.K {} Mb σw Sw env3 (typT t τ Γw) σ2 S3 := g2w.trans ((SGot.stepd (c := {}) g3).mono fun j hj => hMb j (.inr (.inr (by simpa [tchEs] using hj))))
    have t3 : Tmp X.K S3 (.d d) none (.lst acc) (.ref D) F := tm2.step g2w.ok g3.stp fun x e => nomatch e
    cases b with
    | true =>
      rw [if_pos rfl]
      rw [if_pos rfl] at hbody
      exact item S3 env3 g3w t3 hbody
    | false =>
      rw [if_neg (by decide)]
      rw [if_neg (by simp)] at hbody
      simp only [Res.ok.injEq, Prod.mk.injEq] at hbody
      obtain ⟨rfl, rfl⟩ := hbody
      obtain ⟨S5, b1, b2, b3, b4, g5⟩ := close S3 env3 g3w
      exact ⟨S5, acc, env3, F, b1, g5, b4, keepT S3 S5 F _ _ _ b1 b2 b3 t3, new, hrun⟩
  | [], q :: _, _, hcs, _, _ => simp [meEs] at hcs
  | _ :: _, [], _, hcs, _, _ => simp [meEs] at hcs
  | c1 :: c2 :: cr, [q1], _, hcs, _, _ => simp [meEs] at hcs
  | _ :: _, _ :: _ :: _, hl, _, _, _ => simp at hl
end
end OI
set_option maxRecDepth 100000
set_option maxHeartbeats 4000000
/-! OI40: list comprehensions, the whole. -/
namespace OI
open PySem PySem.Spec PyProof.Rows L2
section
variable {T : List FnA} {X : Cx} {K : PySem.W.Frag} {c : Lp} {σ σ' σ2 σ0 : St} {S S' S2 S0 : ASt} {M M' : List Nat} {H H' : Hp} {Z : Addr → Prop}
theorem typE_lc {d : Nat} {elt : E} {t : Tg} {it : E} {cs : List E} {Γ : List Gt} : typE T (.lc d elt t it cs) Γ = lcT d t (tchE elt ++ tchEs cs) (typI T it Γ) (fun Γ1 => typAll T cs Γ1) (fun Γ1 => typE T elt Γ1) := by
  cases it <;> simp only [typE, typI]
theorem me_lc {N : List Str} {sc : Scope} {d : Nat} {elt : E} {t : Tg} {it : E} {cs : List E} {e : Expr} (h : meE T N sc (.lc d elt t it cs) e = true) : ∃ qe tg i ifs scope pos, e = .ListComp qe [⟨tg, i, ifs, 0⟩] scope pos ∧ blkC N sc scope (ownOf N t.slots) = true ∧ (ownOf N t.slots).map (·.2) = t.slots ∧ ifs.length ≤ 1 ∧
    plainX i = true ∧ itTg it tg = true ∧ meE T N sc it i = true ∧ meT N scope t tg = true ∧ meEs T N (relS scope sc) cs ifs = true ∧ meE T N (relS scope sc) elt qe = true := by
  simp only [meE] at h
  split at h
  · simp only [Bool.and_eq_true, decide_eq_true_eq] at h
    obtain ⟨⟨⟨⟨⟨⟨⟨⟨h1, h2⟩, h3⟩, h4⟩, h5⟩, h6⟩, h7⟩, h8⟩, h9⟩ := h
    exact ⟨_, _, _, _, _, _, rfl, h1, h2, h3, h4, h5, h6, h7, h8, h9⟩
  · cases h
theorem blkC_kind {N : List Str} {sc scope : Scope} {own : List (Str × Nat)} (h : blkC N sc scope own = true) : scope.kind = .function := (blkOk_by h).kind
/-- the reading holds -/
theorem lc_read {d : Nat} {elt : E} {t : Tg} {it : E} {cs : List E} {G : Ctx} {ER : ERel} {W : WX} {k : Nat} {tg i qe : Expr} {ifs : List Expr} {scope : Scope} {r : TR} {Γ' : List Gt} (hi : SndI T it) (hcT : ∀ c ∈ cs, SndT T c) (heE : SndE T elt)
    (g : Good X T G ER W k) (hb : blkC X.N X.env.scope scope (ownOf X.N t.slots) = true) (hl : ifs.length ≤ 1) (hpx : plainX i = true) (htg : itTg it tg = true) (hmi : meE T X.N X.env.scope it i = true) (hmt : meT X.N scope t tg = true)
    (hcs : meEs T X.N (relS scope X.env.scope) cs ifs = true) (helt : meE T X.N (relS scope X.env.scope) elt qe = true) (ht : typE T (.lc d elt t it cs) S.G = some (r, Γ')) (o : Ok X.K σ S) :
    SndOT X.K G ER W (.lc d elt t it cs) (tLc (WI X tg i) (gA X scope tg) (tA X scope ifs) (eA X scope qe) t.slots) σ S r Γ' := by
  rw [typE_lc] at ht
  unfold lcT at ht
  cases t0 : typI T it S.G with
  | none => simp [t0] at ht
  | some p0 =>
    obtain ⟨τ, ss, Γ0⟩ := p0
    simp only [t0] at ht
    split at ht
    · rename_i qr Γ2 hall hte
      split at ht
      · rename_i hc
        cases ht
        simp only [Bool.and_eq_true, decide_eq_true_eq, List.all_eq_true] at hc
        obtain ⟨⟨⟨⟨⟨hd, rfl⟩, hua⟩, hss⟩, hown⟩, hwk⟩ := hc
        simp only [ownOk, Bool.and_eq_true, List.all_eq_true] at hown
        have s1 := hi X G ER W k g tg i hmi htg hpx σ S τ ss Γ' t0 o
        have tE : tchE (.lc d elt t it cs) = tchE it ++ (tchE elt ++ tchEs cs) := by simp [tchE]
        have hl0 : ∀ j ∈ t.slots, j < Γ'.length := fun j hj => by have := (hown.2 j hj).1; simp only [Bool.and_eq_true, decide_eq_true_eq] at this; exact this.2
        have hM0 : ∀ j ∈ t.slots, j ∉ tchE elt ++ tchEs cs := fun j hj hm => by
          have := (hown.2 j hj).1
          simp only [Bool.and_eq_true, Bool.not_eq_true'] at this
          have q := List.contains_iff_mem.mpr hm
          rw [this.1] at q; cases q
        have hal : ∀ j ∈ t.slots, ∀ y ks, gat Γ' j ≠ .al y ks := fun j hj y ks e => by have := (hown.2 j hj).2; rw [e] at this; cases this
        refine ⟨fun v env' ev Q hQ => ?_, fun x ev Q hx => ?_⟩
        · simp only [evalE] at ev
          obtain ⟨⟨v0, env0⟩, h1, ev⟩ := Res.bind_ok.mp ev
          obtain ⟨xs, h2, ev⟩ := Res.bind_ok.mp ev
          obtain ⟨⟨accf, envf⟩, h3, ev⟩ := Res.bind_ok.mp ev
          have h3 := noExc_ok.mp h3
          simp only [Res.ok.injEq, Prod.mk.injEq] at ev
          obtain ⟨rfl, rfl⟩ := ev
          have hev : evalIt G it S.env = .ok (xs, env0) := by unfold evalIt; rw [h1]; simp only [Res.bind]; rw [h2]
          refine s1.ok xs env0 hev (t.slots ++ (tchE elt ++ tchEs cs)) (fun x hx hm => ?_) _ fun S1 J g1 ig D hD => ?_
          · have := hss x hx
            have q := List.contains_iff_mem.mpr hm
            simp only [q] at this
            exact absurd this (by decide)
          · generalize hMb : t.slots ++ (tchE elt ++ tchEs cs) = Mb at ig
            obtain ⟨Sw, a1, a2, a3, a4, a5, ow⟩ := hide (L := t.slots) g1.ok (fun j hj => by rw [g1.g]; exact hl0 j hj)
            rw [g1.g] at a2
            have hww : wipe (wipe σ t.slots) t.slots = wipe σ t.slots := List.ext_getElem? fun j => by
              rw [wipe_at, wipe_at]
              by_cases hj : j ∈ t.slots
              · rw [if_pos hj, if_pos hj]; cases σ[j]? <;> rfl
              · rw [if_neg hj, if_neg hj]
            have hwr : ∀ a, Wr Mb Sw a → Wr Mb S1 a := fun a ⟨j, hj, ha⟩ => by
              rw [a5] at ha
              split at ha
              · cases ha
              · exact ⟨j, hj, ha⟩
            have kp1 : ∀ S', Stp Mb Sw S' → Kp (Wr Mb S1) S1.H S'.H := fun S' st a ob e q => st.keep a ob (by rw [a3]; exact e) (q.imp id fun n z => n (hwr a z))
            obtain ⟨GG, Y, wlk, hY⟩ := ig.walk
            have hDw : Sw.H D = none := by rw [a3]; exact hD
            obtain ⟨f1, f2⟩ := ow.fresh hDw
            have start : LcP X G t cs elt d Mb Sw (deadT t.slots Γ') (wipe σ t.slots) D accf envf xs 0 (upd S1.H D (.lst [])) := by
              refine ⟨Sw.atH (upd Sw.H D (.lst [])), [], env0, [D], by show upd Sw.H D _ = _; rw [a3], ⟨rfl, a2, .alloc hDw, ow.alloc hDw, rfl, fun _ _ => rfl, fun _ e => nomatch e⟩, by show Sw.env = _; rw [a1, g1.env], ⟨?_, fun _ j a ha hb => ?_, fun _ e => (nomatch e), fun a ha => ?_⟩, fun a ha => ?_, by rw [List.drop_zero]; exact h3⟩
              · obtain ⟨e, rfl⟩ : ∃ e, d = e + 1 := ⟨d - 1, by omega⟩
                exact Rep.lstS (d := e) upd_same .nil (by simp)
              · simp at ha; subst ha; exact f1 j hb
              · simp at ha; subst ha; exact f2
              · simp at ha; subst ha; exact .inl hDw
            refine lc_it wlk (LcP X G t cs elt d Mb Sw (deadT t.slots Γ') (wipe σ t.slots) D accf envf xs) start ?_ ?_ ?_
            · rintro j _ hj ⟨S', acc, envI, F, rfl, g', _⟩
              exact (hY S'.H (kp1 S' g'.stp)).1
            · rintro j x _ H3 hj ⟨S', acc, envI, F, rfl, g', eE, tm, new, hrun⟩ y
              obtain ⟨v, hv, rv, hH3⟩ := (hY S'.H (kp1 S' g'.stp)).2 j x H3 hj y
              have := lc_turn (x := x) g (blkC_kind hb) hmt hcs helt hl hcT heE hd hall hte hua hwk (fun j hj => by rw [deadT_len]; exact hl0 j hj) (fun j hj => by
                subst hMb
                simp only [List.mem_append]
                rcases hj with h | h | h
                · exact .inl h
                · exact .inr (.inl h)
                · exact .inr (.inr h)) hww rfl g' eE tm new hrun hv (rv.keep (W := fun _ => False) .refl (by intro a ha; cases ha) (fun _ _ z => z) (fun a z => g'.stp.z a (by rw [a4]; exact z))) hH3
              simpa only [hww] using this
            · rintro _ ⟨S', acc, envI, F, rfl, g', eE, tm, new, hrun⟩
              rw [List.drop_length] at hrun
              simp only [compLoop, Res.ok.injEq, Prod.mk.injEq] at hrun
              obtain ⟨rfl, rfl⟩ := hrun
              -- back in the def
              have g'g : S'.G = deadT t.slots Γ' := g'.g
              have lenE : S1.env.length = envI.length := by
                have e1 : S'.env.length = (wipe σ t.slots).length := g'.ok.len
                rw [eE, wipeV_len, wipe_length] at e1
                rw [g1.ok.len, e1]
              have own0 : ∀ j ∈ t.slots, S'.Fs j = [] := fun j hj => g'.ok.no j (.inr fun v e => by
                rw [eE, wipeV_at, if_pos hj] at e
                cases h : envI[j]? <;> simp [h] at e)
              -- what is hidden stands
              have hid : ∀ j ∈ t.slots, ∀ a ∈ S1.Fs j, (∀ ob, S1.H a = some ob → S'.H a = some ob) ∧ (∀ i, a ∉ S'.Fs i) ∧ ¬ S'.Z a ∧ a ∉ F := fun j hj a ha => by
                obtain ⟨ob, eo, im⟩ := g1.ok.trk j a ha
                have nw : ¬ Wr Mb Sw a := fun ⟨i, hi, hb⟩ => by
                  rw [a5] at hb
                  split at hb
                  · cases hb
                  · rename_i hn
                    exact g1.ok.apart j i (fun e => hn (e ▸ hj)) a ha hb
                have ew : Sw.H a = some ob := by rw [a3]; exact eo
                refine ⟨fun ob' e => g'.stp.keep a ob' (by rw [a3]; exact e) (.inr nw), fun i hb => ?_, fun z => ?_, fun hb => ?_⟩
                · rcases g'.stp.fnew i a hb with z | z | z
                  · rw [a5] at z
                    split at z
                    · cases z
                    · rename_i hn
                      exact g1.ok.apart j i (fun e => hn (e ▸ hj)) a ha z
                  · rw [ew] at z; cases z
                  · exact nw z
                · rcases g'.stp.znew a z with z | z | z
                  · rw [a4] at z; exact g1.ok.nz j a ha z
                  · rw [ew] at z; cases z
                  · exact nw z
                · rcases new a hb with z | z
                  · rw [ew] at z; cases z
                  · exact nw z
              have Gat : ∀ j, j ∉ t.slots → ∀ τ, Γ'[j]? = some (.t τ) ↔ S'.G[j]? = some (.t τ) := fun j hj τ => by rw [g'g, deadT_t hj]
              have ok3 : Ok X.K σ { env := restore env0 t.slots envI, G := Γ', Fs := fun j => if j ∈ t.slots then S1.Fs j else S'.Fs j, Z := S'.Z, H := S'.H } := by
                have renv : ∀ j, (restore env0 t.slots envI)[j]? = if j ∈ t.slots then S1.env[j]? else envI[j]? := fun j => by rw [restore_at (by rw [← g1.env]; exact lenE), g1.env]
                have senv : ∀ j, j ∉ t.slots → envI[j]? = S'.env[j]? := fun j hj => by rw [eE, wipeV_at, if_neg hj]
                refine ⟨?_, fun j τ' u hg he => ?_, fun j h => ?_, fun y x' ks h => ?_, fun a b hab z hz hz2 => ?_, fun j a ha => ?_, fun j a ha => ?_, g'.ok.ztr⟩
                · have : ∀ (is : List Nat) (env : OI.Env), (restore env0 is env).length = env.length := by
                    intro is
                    induction is with
                    | nil => intro env; rfl
                    | cons i is ih => intro env; simp only [restore]; rw [ih, setV_len]
                  show (restore env0 t.slots envI).length = _
                  rw [this, ← lenE]; exact g1.ok.len
                · have he : (restore env0 t.slots envI)[j]? = some (some u) := he
                  rw [renv] at he
                  have hg : Γ'[j]? = some (.t τ') := hg
                  by_cases hj : j ∈ t.slots
                  · rw [if_pos hj] at he
                    obtain ⟨w, e1, rp⟩ := g1.ok.slot j τ' u (by rw [g1.g]; exact hg) he
                    refine ⟨w, e1, ?_⟩
                    show RepT X.K S'.H S'.Z τ' u w (if j ∈ t.slots then S1.Fs j else S'.Fs j)
                    rw [if_pos hj]
                    exact rp.keep (W := fun a => ¬ ((∀ ob, S1.H a = some ob → S'.H a = some ob))) (fun a ob e q => q.elim (fun im => g'.stp.keep a ob (by rw [a3]; exact e) (.inl im)) fun n => (Classical.not_not.mp n) ob e) (fun a ha n => n (hid j hj a ha).1) (fun a z n => n fun ob e => g'.stp.keep a ob (by rw [a3]; exact e) (.inr fun q => g1.ok.zW a z (hwr a q))) (fun a z => g'.stp.z a (by rw [a4]; exact z))
                  · rw [if_neg hj, senv j hj] at he
                    obtain ⟨w, e1, rp⟩ := g'.ok.slot j τ' u ((Gat j hj τ').mp hg) he
                    rw [wipe_at, if_neg hj] at e1
                    refine ⟨w, e1, ?_⟩
                    show RepT X.K S'.H S'.Z τ' u w (if j ∈ t.slots then S1.Fs j else S'.Fs j)
                    rw [if_neg hj]; exact rp
                · show (if j ∈ t.slots then S1.Fs j else S'.Fs j) = []
                  by_cases hj : j ∈ t.slots
                  · rw [if_pos hj]
                    refine g1.ok.no j (h.imp (fun h τ' e => h τ' (by rw [g1.g] at e; exact e)) fun h u e => h u ?_)
                    show (restore env0 t.slots envI)[j]? = _
                    rw [renv, if_pos hj]; exact e
                  · rw [if_neg hj]
                    refine g'.ok.no j (h.imp (fun h τ' e => h τ' ((Gat j hj τ').mpr e)) fun h u e => h u ?_)
                    show (restore env0 t.slots envI)[j]? = _
                    rw [renv, if_neg hj, senv j hj]; exact e
                · have h : Γ'[y]? = some (.al x' ks) := h
                  have hy : y ∉ t.slots := fun hy => hal y hy x' ks (by unfold gat; rw [h]; rfl)
                  by_cases hx : x' ∈ t.slots
                  · obtain ⟨wx, wy, e1, e2, f⟩ := g1.ok.al y x' ks (by rw [g1.g]; exact h)
                    refine ⟨wx, wy, e1, e2, fun H2 hk => f H2 fun a ha ob eo => hk a ?_ ob ((hid x' hx a ha).1 ob eo)⟩
                    show a ∈ (if x' ∈ t.slots then S1.Fs x' else S'.Fs x')
                    rw [if_pos hx]; exact ha
                  · obtain ⟨wx, wy, e1, e2, f⟩ := g'.ok.al y x' ks (by rw [g'g]; exact (deadT_al hy hx).mpr h)
                    rw [wipe_at, if_neg hx] at e1
                    rw [wipe_at, if_neg hy] at e2
                    refine ⟨wx, wy, e1, e2, fun H2 hk => f H2 fun a ha ob eo => hk a ?_ ob eo⟩
                    show a ∈ (if x' ∈ t.slots then S1.Fs x' else S'.Fs x')
                    rw [if_neg hx]; exact ha
                · have hz : z ∈ (if a ∈ t.slots then S1.Fs a else S'.Fs a) := hz
                  have hz2 : z ∈ (if b ∈ t.slots then S1.Fs b else S'.Fs b) := hz2
                  by_cases ha : a ∈ t.slots
                  · rw [if_pos ha] at hz
                    by_cases hb : b ∈ t.slots
                    · rw [if_pos hb] at hz2; exact g1.ok.apart a b hab z hz hz2
                    · rw [if_neg hb] at hz2; exact (hid a ha z hz).2.1 b hz2
                  · rw [if_neg ha] at hz
                    by_cases hb : b ∈ t.slots
                    · rw [if_pos hb] at hz2; exact (hid b hb z hz2).2.1 a hz
                    · rw [if_neg hb] at hz2; exact g'.ok.apart a b hab z hz hz2
                · have ha : a ∈ (if j ∈ t.slots then S1.Fs j else S'.Fs j) := ha
                  by_cases hj : j ∈ t.slots
                  · rw [if_pos hj] at ha; exact (hid j hj a ha).2.2.1
                  · rw [if_neg hj] at ha; exact g'.ok.nz j a ha
                · have ha : a ∈ (if j ∈ t.slots then S1.Fs j else S'.Fs j) := ha
                  by_cases hj : j ∈ t.slots
                  · rw [if_pos hj] at ha
                    obtain ⟨ob, eo, im⟩ := g1.ok.trk j a ha
                    exact ⟨ob, (hid j hj a ha).1 ob eo, im⟩
                  · rw [if_neg hj] at ha; exact g'.ok.trk j a ha
              have st3 : Stp (tchE (.lc d elt t it cs)) S1 { env := restore env0 t.slots envI, G := Γ', Fs := fun j => if j ∈ t.slots then S1.Fs j else S'.Fs j, Z := S'.Z, H := S'.H } := by
                have inM : ∀ j, j ∉ tchE (.lc d elt t it cs) → j ∉ t.slots → j ∉ Mb := fun j h1 h2 h3 => by
                  subst hMb
                  rw [tE] at h1
                  rcases List.mem_append.mp h3 with h | h
                  · exact h2 h
                  · exact h1 (List.mem_append_right _ h)
                have wrM : ∀ a, Wr Mb Sw a → Wr (tchE (.lc d elt t it cs)) S1 a := fun a ⟨j, hj, ha⟩ => by
                  rw [a5] at ha
                  split at ha
                  · cases ha
                  · rename_i hn
                    refine ⟨j, ?_, ha⟩
                    subst hMb
                    rw [tE]
                    rcases List.mem_append.mp hj with h | h
                    · exact absurd h hn
                    · exact List.mem_append_right _ h
                refine ⟨fun j hj => ?_, fun j hj => ?_, fun a ob e q => g'.stp.keep a ob (by rw [a3]; exact e) (q.imp id fun n z => n (wrM a z)), fun a z => g'.stp.z a (by rw [a4]; exact z), fun a z => ?_, fun j a ha => ?_, fun a z => g'.stp.live a (by rw [a3]; exact z)⟩
                · show (restore env0 t.slots envI)[j]? = _
                  rw [restore_at (by rw [← g1.env]; exact lenE), g1.env]
                  by_cases hs : j ∈ t.slots
                  · rw [if_pos hs]
                  · have e1 := g'.stp.env j (inM j hj hs)
                    rw [a1, wipeV_at, if_neg hs, eE, wipeV_at, if_neg hs] at e1
                    rw [if_neg hs, e1]
                    rw [g1.env]
                · show (if j ∈ t.slots then S1.Fs j else S'.Fs j) = _
                  by_cases hs : j ∈ t.slots
                  · rw [if_pos hs]
                  · rw [if_neg hs, g'.stp.fs j (inM j hj hs), a5, if_neg hs]
                · rcases g'.stp.znew a z with z | z | z
                  · rw [a4] at z; exact .inl z
                  · rw [a3] at z; exact .inr (.inl z)
                  · exact .inr (.inr (wrM a z))
                · have ha : a ∈ (if j ∈ t.slots then S1.Fs j else S'.Fs j) := ha
                  by_cases hs : j ∈ t.slots
                  · rw [if_pos hs] at ha; exact .inl ha
                  · rw [if_neg hs] at ha
                    rcases g'.stp.fnew j a ha with z | z | z
                    · rw [a5, if_neg hs] at z; exact .inl z
                    · rw [a3] at z; exact .inr (.inl z)
                    · exact .inr (.inr (wrM a z))
              have g1M : Stp (tchE (.lc d elt t it cs)) S S1 := g1.stp.mono fun j hj => by rw [tE]; exact List.mem_append_left _ hj
              have wrM2 : ∀ a, Wr Mb Sw a → Wr (tchE (.lc d elt t it cs)) S1 a := fun a ⟨j, hj, ha⟩ => by
                rw [a5] at ha
                split at ha
                · cases ha
                · rename_i hn
                  refine ⟨j, ?_, ha⟩
                  subst hMb
                  rw [tE]
                  rcases List.mem_append.mp hj with h | h
                  · exact absurd h hn
                  · exact List.mem_append_right _ h
              refine hQ { env := restore env0 t.slots envI, G := Γ', Fs := fun j => if j ∈ t.slots then S1.Fs j else S'.Fs j, Z := S'.Z, H := S'.H } (.ref D) F ⟨rfl, rfl, g1M.trans st3, ok3, ⟨tm.rep, fun _ j a ha hb => ?_, fun _ e => (nomatch e), tm.nz⟩, fun _ a ha => ?_⟩
              · have hb : a ∈ (if j ∈ t.slots then S1.Fs j else S'.Fs j) := hb
                by_cases hs : j ∈ t.slots
                · rw [if_pos hs] at hb; exact (hid j hs a hb).2.2.2 ha
                · rw [if_neg hs] at hb; exact tm.own rfl j a ha hb
              · have n1 : S1.H a = none ∨ Wr (tchE (.lc d elt t it cs)) S1 a := (new a ha).imp (fun z => by rw [a3] at z; exact z) (wrM2 a)
                rcases n1 with z | ⟨j, hj, z⟩
                · refine .inl ?_
                  cases q : S.H a with
                  | none => rfl
                  | some u => exact absurd z (g1.stp.live a (by simp [q]))
                · rcases g1M.fnew j a z with z | z | z
                  · exact .inr ⟨j, hj, z⟩
                  · exact .inl z
                  · exact .inr z
        · simp only [evalE] at ev
          rcases Res.bind_exc.mp ev with ev | ⟨_, _, ev⟩
          · exact s1.exc x ev _ (hx.mono fun j hj => by rw [tE]; exact List.mem_append_left _ hj)
          · exfalso
            rcases Res.bind_exc.mp ev with ev | ⟨_, _, ev⟩
            · exact itemsOf_exc ev
            · rcases Res.bind_exc.mp ev with ev | ⟨_, _, ev⟩
              · exact noExc_exc ev
              · cases ev
      · cases ht
    · cases ht
theorem snd_lc {d : Nat} {elt : E} {t : Tg} {it : E} {cs : List E} (hi : SndI T it) (hcT : ∀ c ∈ cs, SndT T c) (heE : SndE T elt) : SndE T (.lc d elt t it cs) := by
  refine snd_iff.mpr fun X G ER W k g e he σ S r Γ' ht o => ?_
  obtain ⟨qe, tg, i, ifs, scope, pos, rfl, hb, hown, hl, hpx, htg, hmi, hmt, hcs, helt⟩ := me_lc he
  have rule : PE X (.ListComp qe [⟨tg, i, ifs, 0⟩] scope pos) (tLc (WI X tg i) (gA X scope tg) (tA X scope ifs) (eA X scope qe) ((ownOf X.N t.slots).map (·.2))) := pe_lc g.calm g.nd pi_wi (blkOk_by hb) pg_A (pts_A hl) pe_A (folded_plain hpx)
  rw [hown] at rule
  have s := lc_read (W := W) hi hcT heE g hb hl hpx htg hmi hmt hcs helt ht o
  exact ⟨fun v env' ev Q hQ => .of rule (s.ok v env' ev Q hQ), fun x ev Q hx => .of rule (s.exc x ev Q hx)⟩
theorem setlc_lc {d : Nat} {elt : E} {t : Tg} {it : E} {cs : List E} (hi : SndI T it) (hcT : ∀ c ∈ cs, SndT T c) (heE : SndE T elt) : SetLc T (.lc d elt t it cs) := by
  intro X G ER W k g q x p j spos he hN hloc hn hlc
  obtain ⟨qe, tg, i, ifs, scope, pos, rfl, hb, hown, hl, hpx, htg, hmi, hmt, hcs, helt⟩ := me_lc he
  simp only [lcOk, Bool.and_eq_true, Bool.not_eq_true'] at hlc
  have rule := ps_setLc (py := p) (pos := pos) (spos := spos) g.calm g.nd hN hloc (sw_true g.kind hloc hlc.1 hlc.2) (pi_wi (tg := tg) (q := i)) (blkOk_by hb) (pg_A (scope := scope)) (pts_A hl) (pe_A (q := qe)) (folded_plain hpx)
  rw [hown] at rule
  exact ⟨_, rule, fun σ S r Γ' ht o => lc_read hi hcT heE g.toGood hb hl hpx htg hmi hmt hcs helt ht o⟩
theorem setlc_of {e : E} (h : ∀ N sc q, meE T N sc e q = true → notComp q = true) : SetLc T e := by
  intro X G ER W k g q x p i spos he hN hloc hn hlc
  rw [h _ _ _ he] at hn
  cases hn
end
end OI
set_option maxRecDepth 100000
set_option maxHeartbeats 4000000
/-! OI41: stores into lists and dicts, by values. -/
namespace OI
open PySem PySem.Spec PyProof.Rows L2
section
variable {T : List FnA} {X : Cx} {K : PySem.W.Frag} {c : Lp} {σ σ' σ2 σ0 : St} {S S' S2 S0 : ASt} {M M' : List Nat} {H H' : Hp} {Z : Addr → Prop}
theorem putP_new {k v : PV} : ∀ {ks vs : List PV}, ks.length = vs.length → fndP k ks = none → putP k v ks vs = (ks ++ [k], vs ++ [v])
  | [], [], _, _ => rfl
  | [], _ :: _, h, _ => by simp at h
  | _ :: _, [], h, _ => by simp at h
  | q :: qs, u :: us, hl, h => by
    simp only [fndP] at h
    split at h
    · cases h
    · rename_i e
      simp only [Option.map_eq_none_iff] at h
      simp only [putP]
      rw [if_neg e, putP_new (by simpa using hl) h]
      rfl
/-- a dict's keys as they are found -/
theorem find_any {κ : Type} [DecidableEq κ] {R : PV → κ → Prop} {k : PV} {q : κ} (hR : ∀ a b, R a b → eqP a k = decide (b = q)) : ∀ {kvs : List (κ × V)} {ks : List PV}, Paired R ks (kvs.map (·.1)) → (kvs.any fun kv => decide (kv.1 = q)) = (fndP k ks).isSome
  | [], [], _ => rfl
  | [], _ :: _, h => by cases h
  | kv :: kvs, [], h => by cases h
  | kv :: kvs, p :: ps, h => by
    cases h with
    | cons h1 h2 =>
      simp only [List.any_cons, fndP]
      rw [find_any hR h2]
      rw [hR _ _ h1]
      by_cases e : kv.1 = q
      · simp [e]
      · simp [e]
theorem map_found {κ : Type} [DecidableEq κ] {R : PV → κ → Prop} {k : PV} {q : κ} {w : V} (hR : ∀ a b, R a b → eqP a k = decide (b = q)) : ∀ {kvs : List (κ × V)} {ks : List PV} {j : Nat}, Paired R ks (kvs.map (·.1)) → (kvs.map (·.1)).Nodup → fndP k ks = some j →
    (kvs.map (fun kv => if kv.1 = q then (kv.1, w) else kv)).map (·.1) = kvs.map (·.1) ∧ (kvs.map (fun kv => if kv.1 = q then (kv.1, w) else kv)).map (·.2) = (kvs.map (·.2)).set j w
  | [], [], _, _, _, h => by simp [fndP] at h
  | [], _ :: _, _, h, _, _ => by cases h
  | kv :: kvs, [], _, h, _, _ => by cases h
  | kv :: kvs, p :: ps, j, h, hn, hf => by
    cases h with
    | cons h1 h2 =>
      simp only [fndP, hR _ _ h1] at hf
      simp only [List.map_cons, List.nodup_cons] at hn
      by_cases e : kv.1 = q
      · simp only [e, decide_true, if_true, Option.some.injEq] at hf
        subst hf
        have rest : kvs.map (fun kv => if kv.1 = q then (kv.1, w) else kv) = kvs := by
          conv => rhs; rw [← List.map_id kvs]
          apply List.map_congr_left
          intro x hx
          have : x.1 ≠ q := fun e2 => hn.1 (by rw [e, ← e2]; exact List.mem_map_of_mem hx)
          simp [this]
        simp only [List.map_cons, e, if_true, rest, List.set_cons_zero, and_self]
      · have ed : decide (kv.1 = q) = false := by simpa using e
        rw [ed] at hf
        simp only [Bool.false_eq_true, if_false] at hf
        obtain ⟨i, hi, rfl⟩ := Option.map_eq_some_iff.mp hf
        obtain ⟨a, b⟩ := map_found (w := w) hR h2 hn.2 hi
        simp only [List.map_cons, if_neg e, a, b, List.set_cons_succ, and_self]
/-- a dict with one more, or one exchanged -/
theorem dct_put {t : Bool} {u : HO} {ks : List PV} {ws : List V} {a : Addr} {k : PV} {d : Nat} {y w : V} {F : List Addr} (hd : Dct t u ks ws) (ha : H a = some u) (c : isKey t k = true) (h : Rep K H Z d k y F) (hz : ks.length < 16777216) :
    ∃ u', DPut H a y w (upd H a u') ∧ ((∃ j, fndP k ks = some j ∧ Dct t u' ks (ws.set j w)) ∨ (fndP k ks = none ∧ Dct t u' (ks ++ [k]) (ws ++ [w]))) := by
  have hz2 : ∀ {n : Nat}, n = ks.length → n < sizeLine := fun e => by rw [sizeLine_eq, e]; exact hz
  cases hd with
  | @k kvs ks h1 h2 =>
    obtain ⟨κ, p, rfl⟩ := pk1_of (by cases k <;> exact c) h
    have hR : ∀ a b, PK1 a b → eqP a k = decide (b = κ) := fun _ _ q => pk1_eq q p
    refine ⟨.dK (putK kvs κ w), .k ha (hz2 (by have := Paired.length h1; simpa using this.symm)), ?_⟩
    have ea := find_any hR h1
    cases hf : fndP k ks with
    | some j =>
      left
      obtain ⟨m1, m2⟩ := map_found (w := w) hR h1 h2 hf
      rw [hf] at ea
      refine ⟨j, rfl, ?_⟩
      unfold putK
      rw [if_pos (by rw [ea]; rfl), ← m2]
      exact .k (by rw [m1]; exact h1) (by rw [m1]; exact h2)
    | none =>
      right
      rw [hf] at ea
      refine ⟨rfl, ?_⟩
      unfold putK
      rw [if_neg (by rw [ea]; exact Bool.false_ne_true)]
      have := Dct.k (kvs := kvs ++ [(κ, w)]) (ks := ks ++ [k]) (by simp only [List.map_append, List.map_cons, List.map_nil]; exact Paired.app h1 (.cons p .nil)) (by
        simp only [List.map_append, List.map_cons, List.map_nil]
        refine List.nodup_append.mpr ⟨h2, by simp, fun x hx z hz e => ?_⟩
        simp at hz
        subst hz
        subst e
        have : kvs.any (fun kv => decide (kv.1 = x)) = true := by
          obtain ⟨kv, hkv, e⟩ := List.mem_map.mp hx
          exact List.any_eq_true.mpr ⟨kv, hkv, by simpa using e⟩
        rw [ea] at this; cases this)
      simpa using this
  | @t kvs ks h1 h2 =>
    cases h <;> simp only [isKey, Bool.false_eq_true] at c
    all_goals
      rename_i xs _ _ h3 h4
      obtain ⟨κs, ps, rfl⟩ := pks1_of c h4
      have hR : ∀ a b, PKt a b → eqP a (.tup xs) = decide (b = κs) := fun _ _ q => pkt_eq q (.tup ps)
      refine ⟨.dT (putK kvs κs w), .t ha h3 (hz2 (by have := Paired.length h1; simpa using this.symm)), ?_⟩
      have ea := find_any hR h1
      cases hf : fndP (.tup xs) ks with
      | some j =>
        left
        obtain ⟨m1, m2⟩ := map_found (w := w) hR h1 h2 hf
        rw [hf] at ea
        refine ⟨j, rfl, ?_⟩
        unfold putK
        rw [if_pos (by rw [ea]; rfl), ← m2]
        exact .t (by rw [m1]; exact h1) (by rw [m1]; exact h2)
      | none =>
        right
        rw [hf] at ea
        refine ⟨rfl, ?_⟩
        unfold putK
        rw [if_neg (by rw [ea]; exact Bool.false_ne_true)]
        have := Dct.t (kvs := kvs ++ [(κs, w)]) (ks := ks ++ [.tup xs]) (by simp only [List.map_append, List.map_cons, List.map_nil]; exact Paired.app h1 (.cons (.tup ps) .nil)) (by
          simp only [List.map_append, List.map_cons, List.map_nil]
          refine List.nodup_append.mpr ⟨h2, by simp, fun x hx z hz e => ?_⟩
          simp at hz
          subst hz
          subst e
          have : kvs.any (fun kv => decide (kv.1 = x)) = true := by
            obtain ⟨kv, hkv, e⟩ := List.mem_map.mp hx
            exact List.any_eq_true.mpr ⟨kv, hkv, by simpa using e⟩
          rw [ea] at this; cases this)
        simpa using this
def SetAny (X : Cx) : TSet := fun o i v H Q => ∃ r, PSet X r ∧ r o i v H Q
theorem setAny : PSet X (SetAny X) := fun pins s σ H o i v ov iv u Q I ro ri rv ⟨r, p, h⟩ => p pins s σ H o i v ov iv u Q I ro ri rv h
/-- what a store at wu does: c' stands there -/
def SetOk (X : Cx) (H : Hp) (Z : Addr → Prop) (e : Nat) (c' : PV) (wu y w : V) (Fu hand : List Addr) : Prop :=
  ∀ Q : Hp → Prop, (∀ (H' : Hp) (Z' : Addr → Prop) (Fu' : List Addr), Kp (fun a => a ∈ Fu) H H' → (∀ a, H a ≠ none → H' a ≠ none) → (∀ a, Z a → Z' a) → (∀ a, Z' a → Z a ∨ a ∈ hand) → Rep X.K H' Z' (e + 1) c' wu Fu' →
      (∀ a ∈ Fu', a ∈ Fu ∨ a ∈ hand) → (∀ a ∈ Fu', ¬ Z' a) → Q H') → SetAny X wu y w H Q
def handV (r : TR) (F : List Addr) : List Addr := if r.2 = none then F else []
/-- the value, as one that may be kept e levels deep -/
theorem keepAt {r : TR} {v : PV} {w : V} {F : List Addr} {e : Nat} (tm : Tmp K S r.1 r.2 v w F) (hu : useAt e r = true) : ∃ (Z' : Addr → Prop) (Fx : List Addr), (∀ a, S.Z a → Z' a) ∧ (∀ a, Z' a → S.Z a ∨ a ∈ handV r F) ∧ Rep K S.H Z' e v w Fx ∧ (∀ a ∈ Fx, a ∈ handV r F) ∧ (∀ a ∈ Fx, ¬ Z' a) := by
  have hF : ∀ a ∈ F, a ∈ handV r F := fun a ha => by
    unfold handV
    rcases useAt_src hu with h | h
    · have t := tm.rep
      rw [h] at t
      rw [t.1] at ha; cases ha
    · rw [if_pos h]; exact ha
  by_cases he : e = 0
  · subst he
    refine ⟨fun a => S.Z a ∨ a ∈ F, [], fun _ z => .inl z, fun a z => z.imp id (hF a), ?_, fun _ h => (nomatch h), fun _ h => (nomatch h)⟩
    cases e1 : r.1 with
    | cl => have t := tm.rep; rw [e1] at t; exact t.cl0.2 _ _
    | d n => have t := tm.rep; rw [e1] at t; exact Rep.freeze (fun _ z => .inl z) (fun a ha => .inr ha) t
  · exact ⟨S.Z, F, fun _ z => z, fun a z => .inl z, tm.use hu he, hF, tm.nz⟩
theorem set_val {e : Nat} {c c' κ v : PV} {wu y w : V} {Fu F : List Addr} {r : TR} {dk : Nat} {Fk : List Addr} (hun : X.A.units + 1 < cLine) (hs : setP c κ v = .ok c') (rep : Rep X.K S.H S.Z (e + 1) c wu Fu) (nz : ∀ a ∈ Fu, ¬ S.Z a) (rk : Rep X.K S.H S.Z dk κ y Fk) (tm : Tmp X.K S r.1 r.2 v w F) (hu : useAt e r = true) (dj : ∀ a ∈ handV r F, a ∉ Fu) :
    SetOk X S.H S.Z e c' wu y w Fu (handV r F) := by
  obtain ⟨Z', Fx, z1, z2, rv, s1, s2⟩ := keepAt tm hu
  have nzZ : ∀ a ∈ Fu, ¬ Z' a := fun a ha z => (z2 a z).elim (nz a ha) fun q => dj a q ha
  have djx : ∀ a ∈ Fx, a ∉ Fu := fun a ha => dj a (s1 a ha)
  cases rep with
  | @lstS _ xs l ws L h1 h2 h3 =>
    cases κ <;> simp only [setP, reduceCtorEq] at hs
    rename_i i
    split at hs <;> cases hs
    rename_i j hj
    have hlt := ixP_lt hj
    obtain ⟨w0, F0, e1, r0, sub0, cont⟩ := h2.focus (List.getElem?_eq_getElem hlt)
    have r2' := Reps.keep (Z' := Z') (W := fun _ => False) .refl (fun _ _ z => z) (fun _ _ z => z) z1 h2
    obtain ⟨F', rF, sF, _⟩ := cont (fun a => a ∈ Fx) Z' S.H v w Fx z1 (fun a ha hb => djx a hb (List.mem_cons_of_mem _ ha)) ⟨.refl, fun a z hb => nz a (List.mem_cons_of_mem _ (sub0 a hb)) z, fun a ha => .inr ha⟩ rv
    have hl : l ∉ F' := fun hb => by
      rcases sF l hb with z | z
      · exact h3 z.1
      · exact djx l z List.mem_cons_self
    cases rk
    refine fun Q hQ => ⟨rSetL, set_list, l, ws, i, j, rfl, rfl, h1, by rw [← ixP_eq, ← h2.length]; exact hj, ?_⟩
    refine hQ _ Z' (l :: F') (upd_kp h1 rfl List.mem_cons_self) upd_live z1 z2 (.lstS upd_same (Reps.keep (kp_one h1 rfl) (fun a ha ea => hl (ea ▸ ha)) (fun a z ea => nzZ l List.mem_cons_self (ea ▸ z)) (fun _ z => z) rF) hl) (fun a ha => ?_) fun a ha z => ?_
    · rcases List.mem_cons.mp ha with rfl | ha
      · exact .inl List.mem_cons_self
      · rcases sF a ha with q | q
        · exact .inl (List.mem_cons_of_mem _ q.1)
        · exact .inr (s1 a q)
    · rcases List.mem_cons.mp ha with rfl | ha
      · exact nzZ _ List.mem_cons_self z
      · rcases sF a ha with q | q
        · exact nzZ a (List.mem_cons_of_mem _ q.1) z
        · exact s2 a q z
  | @dctS _ t ks vs a u ws L h1 h2 h3 h4 =>
    have hs : need (isKey t κ = true ∧ ks.length < 16777216) (.ok (.dct t (putP κ v ks vs).1 (putP κ v ks vs).2)) = .ok c' := by cases κ <;> exact hs
    obtain ⟨⟨hk, hz⟩, hs⟩ := need_ok.mp hs
    cases hs
    obtain ⟨u', dp, alt⟩ := dct_put (w := w) h2 h1 hk rk hz
    have hkl : ks.length = vs.length := h2.lens.trans h3.length.symm
    have hni := h2.notImm
    refine fun Q hQ => ⟨rSetD, set_dict hun, a, _, rfl, dp, ?_⟩
    rcases alt with ⟨j, hf, hd'⟩ | ⟨hf, hd'⟩
    · rw [putP_fnd hkl hf] at hQ
      have hlt : j < vs.length := by rw [← hkl]; exact fndP_lt hf
      obtain ⟨w0, F0, e1, r0, sub0, cont⟩ := h3.focus (List.getElem?_eq_getElem hlt)
      obtain ⟨F', rF, sF, _⟩ := cont (fun a => a ∈ Fx) Z' S.H v w Fx z1 (fun b hb hc => djx b hc (List.mem_cons_of_mem _ hb)) ⟨.refl, fun b z hb => nz b (List.mem_cons_of_mem _ (sub0 b hb)) z, fun b hb => .inr hb⟩ rv
      have hl : a ∉ F' := fun hb => by
        rcases sF a hb with z | z
        · exact h4 z.1
        · exact djx a z List.mem_cons_self
      refine hQ _ Z' (a :: F') (upd_kp h1 hni List.mem_cons_self) upd_live z1 z2 (.dctS upd_same hd' (Reps.keep (kp_one h1 hni) (fun b hb ea => hl (ea ▸ hb)) (fun b z ea => nzZ a List.mem_cons_self (ea ▸ z)) (fun _ z => z) rF) hl) (fun b hb => ?_) fun b hb z => ?_
      · rcases List.mem_cons.mp hb with rfl | hb
        · exact .inl List.mem_cons_self
        · rcases sF b hb with q | q
          · exact .inl (List.mem_cons_of_mem _ q.1)
          · exact .inr (s1 b q)
      · rcases List.mem_cons.mp hb with rfl | hb
        · exact nzZ _ List.mem_cons_self z
        · rcases sF b hb with q | q
          · exact nzZ b (List.mem_cons_of_mem _ q.1) z
          · exact s2 b q z
    · rw [putP_new hkl hf] at hQ
      have one : Reps X.K S.H Z' e [v] [w] Fx := by
        have := Reps.cons rv (Reps.nil (K := X.K) (H := S.H) (Z := Z')) fun _ _ z => nomatch z
        rw [List.append_nil] at this
        exact this
      have rF := Reps.append (Reps.keep (Z' := Z') (W := fun _ => False) .refl (fun _ _ z => z) (fun _ _ z => z) z1 h3) one fun b hb hc => djx b hc (List.mem_cons_of_mem _ hb)
      have hl : a ∉ L ++ Fx := fun hb => by
        rcases List.mem_append.mp hb with hb | hb
        · exact h4 hb
        · exact djx a hb List.mem_cons_self
      refine hQ _ Z' (a :: (L ++ Fx)) (upd_kp h1 hni List.mem_cons_self) upd_live z1 z2 (.dctS upd_same hd' (Reps.keep (kp_one h1 hni) (fun b hb ea => hl (ea ▸ hb)) (fun b z ea => nzZ a List.mem_cons_self (ea ▸ z)) (fun _ z => z) rF) hl) (fun b hb => ?_) fun b hb z => ?_
      · rcases List.mem_cons.mp hb with rfl | hb
        · exact .inl List.mem_cons_self
        · rcases List.mem_append.mp hb with q | q
          · exact .inl (List.mem_cons_of_mem _ q)
          · exact .inr (s1 b q)
      · rcases List.mem_cons.mp hb with rfl | hb
        · exact nzZ _ List.mem_cons_self z
        · rcases List.mem_append.mp hb with q | q
          · exact nzZ b (List.mem_cons_of_mem _ q) z
          · exact s2 b q z
  | _ => exact absurd hs (by cases κ <;> simp [setP])
end
end OI
set_option maxRecDepth 100000
set_option maxHeartbeats 4000000
/-! OI42: p[k] = e; another name. -/
namespace OI
open PySem PySem.Spec PyProof.Rows L2
section
variable {T : List FnA} {X : Cx} {K : PySem.W.Frag} {c : Lp} {σ σ' σ2 σ0 : St} {S S' S2 S0 : ASt} {M M' : List Nat} {H H' : Hp} {Z : Addr → Prop}
theorem me_P {N : List Str} {sc : Scope} {p : Pr} {ks : List E} {q : Expr} (h : meP T N sc p ks q = true) : ∃ x pos ls, unpath ks.length q = some (.Name x pos, ls) ∧ nmB N sc (p.y.getD p.x) x = true ∧ ls.all notSlice = true ∧ meEs T N sc ks ls = true := by
  unfold meP at h
  split at h
  · rename_i x pos ls hu
    simp only [Bool.and_eq_true] at h
    exact ⟨x, pos, ls, hu, h.1.1, h.1.2, h.2⟩
  · cases h
theorem evalKs_len {G : Ctx} {env : OI.Env} : ∀ {ks : List E} {kv : List PV}, evalKs G ks env = .ok kv → kv.length = ks.length
  | [], kv, h => by simp only [evalKs, Res.ok.injEq] at h; subst h; rfl
  | q :: qs, kv, h => by
    simp only [evalKs, Res.bind_ok] at h
    obtain ⟨_, _, r, hr, e⟩ := h
    cases e
    simp [evalKs_len hr]
/-- a place is read: its container's address -/
theorem place_we {G : Ctx} {ER : ERel} {W : WX} {k : Nat} (g : Good X T G ER W k) (o : Ok X.K σ S) {p : Pr} {n : Nat} {ks : List E} {kv : List PV} {q : Expr} {x : Str} {pos : Pos} {ls : List Expr} {v1 c c' v3 : PV} (hd : depthAt S.G p = some n)
    (hu : unpath ks.length q = some (.Name x pos, ls)) (hnm : nmB X.N X.env.scope (p.y.getD p.x) x = true) (hns : ls.all notSlice = true) (hmk : meEs T X.N X.env.scope ks ls = true) (htk : typAll T ks S.G = true) (htc : tchEs ks = []) (hks : ∀ e ∈ ks, SndE T e) (hkv : evalKs G ks S.env = .ok kv)
    (hv1 : S.env[p.x]? = some (some v1)) (hgp : getPath v1 (p.ks ++ kv) = .ok c) (hpp : putPath v1 (p.ks ++ kv) c' = .ok v3) (hl : (p.ks ++ kv).length ≤ n + p.k0.length) :
    ∃ wx wu, σ[p.x]? = some (some wx) ∧ Foc X.K S.H S.Z (n + p.k0.length) v1 wx (S.Fs p.x) (p.ks ++ kv) c wu ∧ ∀ Q : VK, (∀ S', Stepd X.K σ [] S S.env S.G S' → Q wu S'.H) → WE X q σ S.H Q := by
  obtain ⟨gx, gy⟩ := depthAt_ok hd
  obtain ⟨wx, hwx, rx⟩ := o.slot p.x _ v1 gx hv1
  obtain ⟨wu, hf⟩ := foc hgp ⟨_, _, hpp⟩ hl (o.nz p.x) rx
  refine ⟨wx, wu, hwx, hf, fun Q hQ => ?_⟩
  have f1 := hf.1
  rcases gy with ⟨ey, ek⟩ | ⟨y, ey, hy⟩
  · have e0 : p.ks = [] := by simp [Pr.ks, ek]
    rw [e0, List.nil_append] at f1
    rw [ey] at hnm
    exact path_we g o (w0 := wx) (fun Q hQ => we_var hnm hwx (hQ S ⟨rfl, rfl, .refl, o⟩)) hu hmk hns htk htc hks hkv f1 Q hQ
  · obtain ⟨wx', wy, e1, e2, fa⟩ := o.al y p.x p.k0 hy
    rw [hwx] at e1
    cases e1
    obtain ⟨wm, fa1, fa2⟩ := Follow.split f1
    have := (fa S.H fun _ _ _ e => e).det fa1
    subst this
    rw [ey] at hnm
    exact path_we g o (w0 := wy) (fun Q hQ => we_var hnm e2 (hQ S ⟨rfl, rfl, .refl, o⟩)) hu hmk hns htk htc hks hkv fa2 Q hQ
theorem env_same {env' : OI.Env} {Γ' : List Gt} (g : Stepd K σ [] S env' Γ' S') : env' = S.env := by
  rw [← g.env]
  exact List.ext_getElem? fun j => g.stp.env j (by simp)
theorem assign_sub {o i : Expr} {pos : Pos} {env : PySem.Env} (h : notSlice i = true) : ∀ v, assign (.Subscript o i pos) env v = (do
      let ov ← holding [v] (eval o env)
      let iv ← holding [v, ov] (eval i env)
      standAt pos
      holding [v, ov, iv] (setItem ov iv v)
      release [v, ov, iv] []) := by
  intro v
  cases i <;> first | rfl | (simp [notSlice] at h)
/-- the state behind a store at a place -/
theorem store_at {p : Pr} {n m : Nat} {v1 c' v3 : PV} {wx wu : V} {kv : List PV} {H' : Hp} {Z' : Addr → Prop} {Fu Fu' hand : List Addr} (o : Ok K σ S) (hd : depthAt S.G p = some n) (hwx : σ[p.x]? = some (some wx)) (hv1 : S.env[p.x]? = some (some v1)) (hpp : putPath v1 (p.ks ++ kv) c' = .ok v3)
    (hm : m = kv.length) (ff : Follow S.H wx (p.ks ++ kv) wu)
    (cont : ∀ (N Z' : Addr → Prop) (H' : Hp) (u' v' : PV) (Fu' : List Addr), (∀ a, S.Z a → Z' a) → (∀ a ∈ S.Fs p.x, ¬ N a) → putPath v1 (p.ks ++ kv) u' = .ok v' → Chg S.H H' S.Z N Fu Fu' → Rep K H' Z' (n + p.k0.length - (p.ks ++ kv).length) u' wu Fu' →
      ∃ F', Rep K H' Z' (n + p.k0.length) v' wx F' ∧ (∀ a ∈ F', (a ∈ S.Fs p.x ∧ a ∉ Fu) ∨ a ∈ Fu') ∧ ∀ H2 : Hp, (∀ a ∈ F', ∀ o, H' a = some o → H2 a = some o) → Follow H2 wx (p.ks ++ kv) wu)
    (su : ∀ a ∈ Fu, a ∈ S.Fs p.x) (hhand : ∀ a ∈ hand, (∀ i, a ∉ S.Fs i) ∧ ¬ S.Z a ∧ S.H a ≠ none) (kp : Kp (fun a => a ∈ Fu) S.H H') (live : ∀ a, S.H a ≠ none → H' a ≠ none) (hz : ∀ a, S.Z a → Z' a) (hZ : ∀ a, Z' a → S.Z a ∨ a ∈ hand)
    (rep' : Rep K H' Z' (n + p.k0.length - (p.ks ++ kv).length) c' wu Fu') (hFu' : ∀ a ∈ Fu', a ∈ Fu ∨ a ∈ hand) (hnz' : ∀ a ∈ Fu', ¬ Z' a) :
    ∃ S4, S4.H = H' ∧ S4.env = setV S.env p.x (some v3) ∧ S4.G = aliveA p m S.G ∧ Ok K σ S4 ∧ (∀ a, S4.Z a ↔ Z' a) ∧ (∀ i a, a ∈ S4.Fs i → a ∈ S.Fs i ∨ (i = p.x ∧ a ∈ hand)) ∧ (∀ i, i ≠ p.x → S4.Fs i = S.Fs i) := by
  obtain ⟨gx, _⟩ := depthAt_ok hd
  have nzp := o.nz p.x
  obtain ⟨F', rF, sF, fl'⟩ := cont (fun a => a ∈ hand) Z' H' c' v3 Fu' hz (fun a ha hb => (hhand a hb).1 p.x ha) hpp ⟨kp, fun a z hb => nzp a (su a hb) z, hFu'⟩ rep'
  have kpx : Kp (fun a => a ∈ S.Fs p.x) S.H H' := fun a ob e q => kp a ob e (q.imp id fun n hb => n (su a hb))
  have sF2 : ∀ a ∈ F', (a ∈ S.Fs p.x ∨ ∀ j, a ∉ S.Fs j) ∧ ¬ Z' a := fun a ha => by
    rcases sF a ha with z | z
    · refine ⟨.inl z.1, fun q => ?_⟩
      rcases hZ a q with q | q
      · exact nzp a z.1 q
      · exact (hhand a q).1 p.x z.1
    · refine ⟨?_, hnz' a z⟩
      rcases hFu' a z with q | q
      · exact .inl (su a q)
      · exact .inr (hhand a q).1
  have ok3 := o.wr (x := p.x) (wx := wx) (env' := setV S.env p.x (some v3)) (F' := F') (H' := H') (Z' := Z') (G' := aliveA p m S.G) gx hwx setV_len (fun j hj => by rw [setV_at, if_neg hj])
    (fun v hv => by rw [setV_at, if_pos rfl, hv1] at hv; simp at hv; subst hv; exact rF) (fun hn => absurd (by rw [setV_at, if_pos rfl, hv1]; rfl) (hn v3)) kpx hz
    (fun a z => (hZ a z).imp id fun q => ⟨live a (hhand a q).2.2, (hhand a q).1⟩) sF2 (fun a ha => Rep.trk rF a ha) live (fun j τ => aliveA_t) fun y x' ks' hal => by
      obtain ⟨a1, a2⟩ := aliveA_al hal
      by_cases ex : x' = p.x
      · refine ⟨a1, .inr ?_⟩
        rcases a2 with a2 | ⟨hk0, hks⟩
        · exact absurd ex a2
        · obtain ⟨wx', wy, b1, b2, fa⟩ := o.al y _ _ a1
          rw [ex, hwx] at b1
          cases b1
          have ek : kv = [] := List.eq_nil_of_length_eq_zero (by rw [← hm, hk0])
          have epk : p.ks = ks'.map Kc.v := by rw [hks]; rfl
          rw [ek, List.append_nil, epk] at ff fl'
          have e2 : wy = wu := (fa S.H fun _ _ _ e => e).det ff
          subst e2
          exact ⟨wy, b2, fl'⟩
      · exact ⟨a1, .inl ex⟩
  refine ⟨_, rfl, rfl, rfl, ok3, fun a => Iff.rfl, fun i a ha => ?_, fun i hi => ?_⟩
  · have ha : a ∈ (if i = p.x then F' else S.Fs i) := ha
    by_cases ei : i = p.x
    · rw [if_pos ei] at ha
      rw [ei]
      rcases sF a ha with z | z
      · exact .inl z.1
      · rcases hFu' a z with q | q
        · exact .inl (su a q)
        · exact .inr ⟨rfl, q⟩
    · rw [if_neg ei] at ha; exact .inl ha
  · show (if i = p.x then F' else S.Fs i) = _
    rw [if_neg hi]
theorem me_set {N : List Str} {sc : Scope} {p : Pr} {ks : List E} {e : E} {s : Stmt} (he : meS T N sc (.set p ks e) s = true) : ∃ oe ie tpos q spos, s = .Assign [.Subscript oe ie tpos] q spos ∧ notComp q = true ∧ meE T N sc e q = true ∧ meP T N sc p ks (.Subscript oe ie tpos) = true := by
  simp only [meS] at he
  split at he
  · simp only [Bool.and_eq_true] at he
    exact ⟨_, _, _, _, _, rfl, he.1.1, he.1.2, he.2⟩
  · cases he
theorem snd_set {p : Pr} {ks : List E} {e : E} (hks : ∀ k ∈ ks, SndE T k) (hE : SndE T e) : SndS T (.set p ks e) := by
  have ih := snd_iff.mp hE
  intro X G ER W k g s he c σ S tr ht o
  obtain ⟨oe, ie, tpos, q, spos, rfl, hnc, me, mp⟩ := me_set he
  obtain ⟨x, npos, ls, hun, hnm, hns, hmk⟩ := me_P mp
  simp only [typS] at ht
  cases t1 : typE T e S.G with
  | none => simp [t1] at ht
  | some p1 =>
    obtain ⟨r, Γ1⟩ := p1
    simp only [t1] at ht
    cases hd : depthAt Γ1 p with
    | none => simp [hd] at ht
    | some n =>
      simp only [hd] at ht
      split at ht
      · rename_i hc
        cases ht
        simp only [Bool.and_eq_true, decide_eq_true_eq, List.isEmpty_iff] at hc
        obtain ⟨⟨⟨⟨hk0, hkn⟩, hua⟩, htc⟩, htk⟩ := hc
        have s1 := ih X G ER W k g.toGood q me σ S r Γ1 t1 o
        -- the last key apart
        obtain ⟨mk, hmk0⟩ : ∃ m, ks.length = m + 1 := ⟨ks.length - 1, by omega⟩
        rw [hmk0] at hun
        simp only [unpath] at hun
        obtain ⟨⟨r0, ls0⟩, hun0, e2⟩ := Option.map_eq_some_iff.mp hun
        simp only [Prod.mk.injEq] at e2
        obtain ⟨rfl, rfl⟩ := e2
        obtain ⟨ks0, κe, rfl, hm0, hmκ⟩ := meEs_snoc hmk
        have hl0 : ks0.length = mk := by simpa using hmk0
        obtain ⟨htk0, htκ⟩ := typAll_app htk
        obtain ⟨rκ, htκ⟩ := typAll_one htκ
        rw [tchEs_app, List.append_eq_nil_iff] at htc
        have htcκ : tchE κe = [] := by simpa [tchEs] using htc.2
        simp only [List.all_append, List.all_cons, List.all_nil, Bool.and_true, Bool.and_eq_true] at hns
        have rule : PS X (.Assign [.Subscript oe ie tpos] q spos) (tAsg (WE X q) (gSub (WE X oe) (WE X ie) (SetAny X))) :=
          ps_asg pe_we (pg_sub pe_we pe_we setAny (assign_sub hns.2)) (swapsSole_plain hnc) (by unfold swappedStores; rfl) rfl
        have hM : ∀ i ∈ tchE e, i ∈ tchS (.set p (ks0 ++ [κe]) e) := fun i hi => by simp only [tchS]; exact List.mem_cons_of_mem _ hi
        have hxM : p.x ∈ tchS (.set p (ks0 ++ [κe]) e) := by simp only [tchS]; exact List.mem_cons_self
        refine ⟨fun f ev D hD => ?_, fun y ev D hx => ?_⟩
        · simp only [evalS, Res.bind_ok] at ev
          obtain ⟨⟨v, env1⟩, ev1, kv, hkv, ev⟩ := ev
          obtain ⟨kv0, kv1, rfl, hkv0, hkv1⟩ := evalKs_app hkv
          simp only [evalKs, Res.bind_ok, noExc_ok] at hkv1
          obtain ⟨⟨κ, envk⟩, hκ, rr, hrr, e3⟩ := hkv1
          cases hrr
          cases e3
          simp only [List.getLast?_append, List.getLast?_singleton, Option.some_or, List.dropLast_concat] at ev
          obtain ⟨cc, hrd, ev⟩ := Res.bind_ok.mp ev
          obtain ⟨c', hset, ev⟩ := Res.bind_ok.mp ev
          obtain ⟨env3, hwr, ev⟩ := Res.bind_ok.mp ev
          simp only [Res.ok.injEq] at ev
          subst ev
          simp only [readPath, Res.bind_ok] at hrd
          obtain ⟨v1, hv1, hgp⟩ := hrd
          simp only [writePath, Res.bind_ok, hv1, Res.ok.injEq] at hwr
          obtain ⟨_, rfl, v3, hpp, rfl⟩ := hwr
          have hv1 := getV_ok.mp hv1
          refine .of rule (s1.ok v env1 ev1 _ fun S1 w F g1 => ?_)
          have lk0 := evalKs_len hkv0
          have hlen : (p.ks ++ kv0).length ≤ n + p.k0.length := by simp [Pr.ks, lk0] at hkn ⊢; omega
          obtain ⟨wx, wu, hwx, ⟨ff, ffk, _⟩, hplace⟩ := place_we (W := W) (c' := c') g.toGood g1.ok (by rw [g1.g]; exact hd) (by rw [hl0]; exact hun0) hnm hns.1 hm0 (by rw [g1.g]; exact htk0) htc.1 (fun e he => hks e (by simp [he])) (by rw [g1.env]; exact hkv0) (by rw [g1.env]; exact hv1) hgp hpp hlen
          refine hplace _ fun S2 g2 => ?_
          have e2 := env_same g2
          have sκ := snd_iff.mp (hks κe (by simp)) X G ER W k g.toGood ie hmκ σ S2 rκ Γ1 (by rw [g2.g, g1.g]; exact htκ) g2.ok
          refine sκ.ok κ envk (by rw [g2.env, g1.env]; exact hκ) _ fun S3 y Fk g3 => ?_
          have st3 : Stp [] S2 S3 := g3.stp.mono fun j hj => by rw [htcκ] at hj; cases hj
          have env3 : S3.env = S1.env := by
            have := env_same (S := S2) (S' := S3) ⟨g3.env, g3.g, st3, g3.ok⟩
            rw [g3.env, this, g2.env]
          have st13 : Stp [] S1 S3 := g2.stp.trans st3
          have tm : Tmp X.K S3 r.1 r.2 v w F := (g1.tmp.step g1.ok g2.stp fun x _ => by simp).step g2.ok st3 fun x _ => by simp
          have hv3 : S3.env[p.x]? = some (some v1) := by rw [env3, g1.env]; exact hv1
          have hd3 : depthAt S3.G p = some n := by rw [g3.g]; exact hd
          obtain ⟨gx, _⟩ := depthAt_ok hd3
          obtain ⟨wx2, hwx2, rx2⟩ := g3.ok.slot p.x _ v1 gx hv3
          rw [hwx] at hwx2
          cases hwx2
          obtain ⟨wu2, ff2, _, Fu, ru, su, cont⟩ := foc hgp ⟨_, _, hpp⟩ hlen (g3.ok.nz p.x) rx2
          have hwu : wu2 = wu := ff2.det (ffk S3.H fun a ha ob eo => st13.keep a ob eo (.inr fun ⟨_, hm, _⟩ => nomatch hm))
          subst hwu
          obtain ⟨dk, Fk', rk⟩ := RepT.any g3.tmp.rep
          have hsub : n + p.k0.length - (p.ks ++ kv0).length = (n - (ks0 ++ [κe]).length) + 1 := by simp [Pr.ks, lk0] at hkn ⊢; omega
          have ru' := ru
          rw [hsub] at ru'
          have hand : ∀ a ∈ handV r F, (∀ i, a ∉ S3.Fs i) ∧ ¬ S3.Z a ∧ S3.H a ≠ none := fun a ha => by
            unfold handV at ha
            split at ha
            · rename_i hn
              obtain ⟨ob, eo, _⟩ := tm.rep.trk a ha
              exact ⟨fun i => tm.own hn i a ha, tm.nz a ha, by rw [eo]; simp⟩
            · cases ha
          have handS : ∀ a ∈ handV r F, S.H a = none ∨ Wr (tchS (.set p (ks0 ++ [κe]) e)) S a := fun a ha => by
            unfold handV at ha
            split at ha
            · rename_i hn
              exact (g1.new hn a ha).imp id fun ⟨i, m, z⟩ => ⟨i, hM i m, z⟩
            · cases ha
          have sv := set_val (X := X) (S := S3) (by have := g.toGood.un; omega) hset ru' (fun a ha => g3.ok.nz p.x a (su a ha)) rk tm hua fun a ha hb => (hand a ha).1 p.x (su a hb)
          refine sv _ fun H' Z' Fu' kp live hz hZ rep' hFu' hnz' => ?_
          obtain ⟨S4, b1, b2, b3, b4, b5, b6, b7⟩ := store_at (m := (ks0 ++ [κe]).length - 1) g3.ok hd3 hwx hv3 hpp (by simp [lk0]) ff2 cont su hand kp live hz hZ (by rw [hsub]; exact rep') hFu' hnz'
          have st03 : Stp (tchS (.set p (ks0 ++ [κe]) e)) S S3 := (g1.stp.mono hM).trans (st13.mono fun _ h => nomatch h)
          rw [← b1]
          refine hD _ σ S4 rfl ⟨by rw [b2, env3, g1.env], by rw [b3, g3.g], ⟨fun i hi => ?_, fun i hi => ?_, ?_, fun a z => (b5 a).mpr (hz a (st03.z a z)), fun a z => ?_, fun i a ha => ?_, fun a z => by rw [b1]; exact live a (st03.live a z)⟩, b4, rfl, fun _ _ => rfl, fun _ _ => rfl⟩
          · have hi' : i ≠ p.x := fun e => hi (e ▸ hxM)
            rw [b2, setV_at, if_neg hi']; exact st03.env i hi
          · have hi' : i ≠ p.x := fun e => hi (e ▸ hxM)
            rw [b7 i hi']; exact st03.fs i hi
          · rw [b1]
            exact Kp.trans st03 fun a ob e q => kp a ob e (q.imp id fun n hb => n ⟨p.x, hxM, su a hb⟩)
          · rcases hZ a ((b5 a).mp z) with z | z
            · exact st03.znew a z
            · exact .inr (handS a z)
          · rcases b6 i a ha with z | ⟨rfl, z⟩
            · exact st03.fnew i a z
            · exact .inr (handS a z)
        · simp only [evalS, Res.bind_exc] at ev
          rcases ev with ev | ⟨_, _, ev | ⟨kv, _, ev⟩⟩
          · exact .of rule (s1.exc y ev _ (hx.xw.mono hM))
          · exact absurd ev evalKs_exc
          · exfalso
            split at ev
            · cases ev
            · rcases Res.bind_exc.mp ev with ev | ⟨_, _, ev⟩
              · exact readPath_exc ev
              · rcases Res.bind_exc.mp ev with ev | ⟨_, _, ev⟩
                · exact setP_exc ev
                · rcases Res.bind_exc.mp ev with ev | ⟨_, _, ev⟩
                  · exact writePath_exc ev
                  · cases ev
      · cases ht
end
end OI
set_option maxRecDepth 100000
set_option maxHeartbeats 4000000
/-! OI43: another name of what stands at a place. -/
namespace OI
open PySem PySem.Spec PyProof.Rows L2
section
variable {T : List FnA} {X : Cx} {K : PySem.W.Frag} {c : Lp} {σ σ' σ2 σ0 : St} {S S' S2 S0 : ASt} {M M' : List Nat} {H H' : Hp} {Z : Addr → Prop}
def Kc.e : Kc → E
  | .i n => .int n
  | .s x => .str x
theorem kcs_me {N : List Str} {sc : Scope} : ∀ {ks : List Kc} {ls : List Expr}, meKs ks ls = true → meEs T N sc (ks.map Kc.e) ls = true
  | [], [], _ => rfl
  | [], _ :: _, h => by simp [meKs] at h
  | .i n :: ks, [], h => by simp [meKs] at h
  | .s n :: ks, [], h => by simp [meKs] at h
  | .i n :: ks, l :: ls, h => by
    cases l <;> first | (simp only [meKs, Bool.false_eq_true] at h; done) | skip
    rename_i cc j pos
    cases cc <;> first | (simp only [meKs, Bool.false_eq_true] at h; done) | skip
    simp only [meKs, Bool.and_eq_true] at h
    simp only [List.map_cons, Kc.e, meEs, plainX, meE, Bool.true_and, Bool.and_eq_true]
    exact ⟨h.1, kcs_me h.2⟩
  | .s n :: ks, l :: ls, h => by
    cases l <;> first | (simp only [meKs, Bool.false_eq_true] at h; done) | skip
    rename_i cc j pos
    cases cc <;> first | (simp only [meKs, Bool.false_eq_true] at h; done) | skip
    simp only [meKs, Bool.and_eq_true] at h
    simp only [List.map_cons, Kc.e, meEs, plainX, meE, Bool.true_and, Bool.and_eq_true]
    exact ⟨h.1, kcs_me h.2⟩
theorem kcs_typ {Γ : List Gt} : ∀ {ks : List Kc}, typAll T (ks.map Kc.e) Γ = true
  | [] => rfl
  | .i n :: ks => by simp [typAll, Kc.e, typE, kcs_typ (ks := ks)]
  | .s n :: ks => by simp [typAll, Kc.e, typE, kcs_typ (ks := ks)]
theorem kcs_tch : ∀ {ks : List Kc}, tchEs (ks.map Kc.e) = []
  | [] => rfl
  | .i n :: ks => by simp [tchEs, Kc.e, tchE, kcs_tch (ks := ks)]
  | .s n :: ks => by simp [tchEs, Kc.e, tchE, kcs_tch (ks := ks)]
theorem kcs_ev {G : Ctx} {env : OI.Env} : ∀ {ks : List Kc}, evalKs G (ks.map Kc.e) env = .ok (ks.map Kc.v)
  | [] => rfl
  | .i n :: ks => by simp [evalKs, Kc.e, evalE, noExc, Res.bind, kcs_ev (ks := ks), Kc.v]
  | .s n :: ks => by simp [evalKs, Kc.e, evalE, noExc, Res.bind, kcs_ev (ks := ks), Kc.v, litP]
theorem kcs_snd : ∀ {ks : List Kc}, ∀ e ∈ ks.map Kc.e, SndE T e := by
  intro ks e he
  obtain ⟨k, _, rfl⟩ := List.mem_map.mp he
  cases k
  · exact snd_int
  · exact snd_str
theorem snd_als {y x : Nat} {ks : List Kc} : SndS T (.als y x ks) := by
  intro X G ER W k g s he c σ S tr ht o
  obtain ⟨n, npos, q, spos, z, zpos, ls, rfl, hN, hloc, hnc, hun, hnm, hns, hmk⟩ : ∃ n npos q spos z zpos ls, s = .Assign [.Name n npos] q spos ∧ X.N[y]? = some n ∧ locB X.env.scope n = true ∧ notComp q = true ∧ unpath ks.length q = some (.Name z zpos, ls) ∧ nmB X.N X.env.scope x z = true ∧ ls.all notSlice = true ∧ meKs ks ls = true := by
    simp only [meS] at he
    split at he
    · rename_i n npos q spos
      simp only [Bool.and_eq_true, decide_eq_true_eq] at he
      obtain ⟨⟨⟨h1, h2⟩, h3⟩, h4⟩ := he
      split at h4
      · rename_i z zpos ls hu
        simp only [Bool.and_eq_true] at h4
        exact ⟨n, npos, q, spos, z, zpos, ls, rfl, h1, h2, h3, hu, h4.1.1, h4.1.2, h4.2⟩
      · cases h4
    · cases he
  simp only [typS] at ht
  split at ht
  · rename_i m hg
    split at ht
    · rename_i hc
      cases ht
      simp only [Bool.and_eq_true, decide_eq_true_eq] at hc
      obtain ⟨⟨hkm, hyx⟩, htg⟩ := hc
      obtain ⟨hyl, hyio⟩ := (tgOk_ok htg).2 y (by simp)
      have rule : PS X (.Assign [.Name n npos] q spos) (tAsg (WE X q) (gName y)) := ps_set g.nd hN (locB_ok hloc) pe_we (swaps_plain hnc) (.inl (g.fn n))
      refine ⟨fun f ev D hD => ?_, fun w ev D hx => ?_⟩
      · simp only [evalS, Res.bind_ok, need_ok, Res.ok.injEq] at ev
        obtain ⟨v, hv, u, hgp, v3, hpp, ⟨hcn, hye⟩, rfl⟩ := ev
        have hv := getV_ok.mp hv
        obtain ⟨wx, hwx, rx⟩ := o.slot x _ v (gat_some hg) hv
        obtain ⟨wu, ff, ffk, _⟩ := foc hgp ⟨_, _, hpp⟩ (by simp; omega) (o.nz x) rx
        refine .of rule (path_we g.toGood o (w0 := wx) (fun Q hQ => we_var hnm hwx (hQ S ⟨rfl, rfl, .refl, o⟩)) (ks := ks.map Kc.e) (by simpa using hun) (kcs_me hmk) hns kcs_typ kcs_tch kcs_snd kcs_ev ff _ fun S1 g1 => ?_)
        have e1 := env_same g1
        have hyσ : y < σ.length := by rw [← o.len]; exact hye
        have o1 := g1.ok.put (σ' := σ.set y (some wu)) (i := y) (env' := S1.env) (g := .dead) (F := []) (Z' := S1.Z) (by rw [g1.g]; exact hyl) (by rw [List.length_set]; exact g1.ok.len) (fun _ _ => rfl) (fun j hj => by rw [List.getElem?_set_ne (Ne.symm hj)]) (fun _ _ h => nomatch h) (fun _ _ h => nomatch h) (fun _ => rfl) (fun _ z => z) (fun _ z => .inl z) (fun _ h => nomatch h)
        have hlen : y < (killA y S1.G).length := by rw [killA_len, g1.g]; exact hyl
        have gne : ∀ j, j ≠ y → (setT y (.al x ks) S1.G)[j]? = (setT y .dead S1.G)[j]? := fun j hj => by rw [setT_ne hj, setT_ne hj]
        have geq : (setT y (.al x ks) S1.G)[y]? = some (.al x ks) := setT_eq (by rw [g1.g]; exact hyl)
        have geq0 : (setT y .dead S1.G)[y]? = some .dead := setT_eq (by rw [g1.g]; exact hyl)
        have ok2 : Ok X.K (σ.set y (some wu)) { env := S1.env, G := setT y (.al x ks) S1.G, Fs := fun j => if j = y then [] else S1.Fs j, Z := S1.Z, H := S1.H } := by
          refine ⟨o1.len, fun j τ v' h1 h2 => ?_, fun j h => ?_, fun y' x' ks' h => ?_, o1.apart, o1.nz, o1.trk, o1.ztr⟩
          · have h1 : (setT y (.al x ks) S1.G)[j]? = some (.t τ) := h1
            by_cases e : j = y
            · subst e; rw [geq] at h1; cases h1
            · rw [gne j e] at h1; exact o1.slot j τ v' h1 h2
          · by_cases e : j = y
            · show (if j = y then [] else S1.Fs j) = []
              rw [if_pos e]
            · exact o1.no j (h.imp (fun h τ e2 => h τ (by show (setT y (.al x ks) S1.G)[j]? = _; rw [gne j e]; exact e2)) fun h => h)
          · have h : (setT y (.al x ks) S1.G)[y']? = some (.al x' ks') := h
            by_cases e : y' = y
            · subst e
              rw [geq] at h
              cases h
              refine ⟨wx, wu, by rw [List.getElem?_set_ne hyx]; exact hwx, by rw [List.getElem?_set_self hyσ], fun H2 hk => ffk H2 fun a ha ob eo => hk a ?_ ob ?_⟩
              · show a ∈ (if x = y' then [] else S1.Fs x)
                rw [if_neg (Ne.symm hyx), g1.stp.fs x (by simp)]; exact ha
              · show S1.H a = some ob
                exact g1.stp.keep a ob eo (.inr fun ⟨_, hm, _⟩ => nomatch hm)
            · rw [gne y' e] at h; exact o1.al y' x' ks' h
        have hM : y ∈ tchS (.als y x ks) := by simp [tchS]
        refine hD _ (σ.set y (some wu)) { env := S1.env, G := setT y (.al x ks) S1.G, Fs := fun j => if j = y then [] else S1.Fs j, Z := S1.Z, H := S1.H } rfl ⟨e1 ▸ g1.env, by rw [g1.g], ⟨fun j hj => g1.stp.env j (by simp), fun j hj => ?_, fun a ob e q => g1.stp.keep a ob e (q.imp id fun _ ⟨_, hm, _⟩ => nomatch hm), g1.stp.z, fun a z => (g1.stp.znew a z).imp id (Or.imp id fun ⟨_, hm, _⟩ => nomatch hm), fun j a ha => ?_, g1.stp.live⟩, ok2, by rw [List.length_set], fun j hj => ?_, fun j hj => ?_⟩
        · show (if j = y then [] else S1.Fs j) = _
          rw [if_neg fun e : j = y => hj (e ▸ hM)]; exact g1.stp.fs j (by simp)
        · have ha : a ∈ (if j = y then [] else S1.Fs j) := ha
          split at ha
          · cases ha
          · exact (g1.stp.fnew j a ha).imp id (Or.imp id fun ⟨_, hm, _⟩ => nomatch hm)
        · rw [List.getElem?_set_ne fun e : y = j => hj (e ▸ hM)]
        · rw [List.getElem?_set_ne fun e : y = j => hyio (e ▸ hj)]
      · exfalso
        simp only [evalS, Res.bind_exc, need_exc] at ev
        rcases ev with ev | ⟨_, _, ev | ⟨_, _, ev | ⟨_, _, _, ev⟩⟩⟩
        · exact getV_exc ev
        · exact getPath_exc ev
        · exact putPath_exc ev
        · cases ev
    · cases ht
  · cases ht
end
end OI
set_option maxRecDepth 100000
set_option maxHeartbeats 4000000
/-! OI44: isinstance. -/
namespace OI
open PySem PySem.Spec PyProof.Rows L2
section
variable {T : List FnA} {X : Cx} {K : PySem.W.Frag} {c : Lp} {σ σ' σ2 σ0 : St} {S S' S2 S0 : ASt} {M M' : List Nat} {H H' : Hp} {Z : Addr → Prop}
def tyNm : PV → String
  | .non => "NoneType" | .bl _ => "bool" | .int _ => "int" | .str _ => "str" | .tup _ => "tuple" | .lst _ => "list" | .dct _ _ _ => "dict" | _ => ""
theorem ty_top {v : PV} {w : V} (h : Top K H v w) : TyX K H w (.type (tyNm v)) := by
  cases h with
  | non => exact .base .non
  | bl b => exact .base (.bl b)
  | int b => exact .base (.int b)
  | str b => exact .base (.str b)
  | tup h1 h2 => exact .base (.tup h1)
  | lst h1 h2 =>
    rcases h1 with h1 | ⟨o, h1⟩
    · exact .base (.lst h1)
    · exact .base (.frz h1)
  | dct h1 h2 h3 =>
    cases h2 with
    | k _ _ => exact .base (.dK h1)
    | t _ _ => exact .base (.dT h1)
theorem kit_one {v : PV} {w : V} (h : Top K H v w) (t : Ty) (ht : ∀ n, t ≠ .cls n) : PySem.W.kitOne K (.type (tyNm v)) (.type t.nm) = some (isTy v t) := by
  cases h <;> cases t <;> first
    | exact absurd rfl (ht _)
    | exact kit_ty (by simp only [tyNm, Ty.nm, isTy]; decide +kernel)
theorem kit_any {v : PV} {w : V} (h : Top K H v w) : ∀ {ts : List Ty}, (∀ t ∈ ts, ∀ n, t ≠ .cls n) → PySem.W.kitAny K (.type (tyNm v)) (ts.map fun t => .type t.nm) = some (ts.any (isTy v))
  | [], _ => kitAny_nil
  | t :: ts, ht => by
    simp only [List.map_cons, List.any_cons]
    exact kitAny_cons (kit_one h t (ht t (by simp))) (fun e => by rw [e, Bool.false_or]; exact kit_any h fun t' h' => ht t' (by simp [h'])) (fun e => by rw [e, Bool.true_or])
theorem meTys_nc {sc : Scope} : ∀ {ts : List Ty} {ys : List Expr}, meTys sc ts ys = true → (∀ t ∈ ts, ∀ n, t ≠ .cls n) ∧ ys.all plainX = true ∧ ts.length = ys.length
  | [], [], _ => ⟨fun _ h => (nomatch h), rfl, rfl⟩
  | [], _ :: _, h => by simp [meTys] at h
  | _ :: _, [], h => by simp [meTys] at h
  | t :: ts, y :: ys, h => by
    cases y <;> simp only [meTys, Bool.false_eq_true] at h
    simp only [Bool.and_eq_true, decide_eq_true_eq] at h
    obtain ⟨⟨⟨_, h2⟩, _⟩, h4⟩ := h
    obtain ⟨a, b, d⟩ := meTys_nc h4
    refine ⟨fun t' ht n e => ?_, by simp [plainX, b], by simp [d]⟩
    rcases List.mem_cons.mp ht with rfl | ht
    · subst e; exact h2 rfl
    · exact a t' ht n e
def tTys (ts : List Ty) : TA := fun _ H Q => Q (ts.map fun t => V.ty t.nm) H
theorem ty_boot {t : Ty} (h : t.nm ≠ "") : bootBuiltins (Str.ofString t.nm) = some (.type t.nm) ∧ Str.ofString t.nm ≠ "__name__" ∧ (Str.ofString t.nm == ("__debug__" : Str)) = false := by
  cases t <;> first | exact ⟨by decide +kernel, by decide +kernel, by decide +kernel⟩ | exact absurd rfl h
/-- the types' names are the built-in ones -/
def TysFree (X : Cx) : Prop := ∀ t : Ty, X.mg (Str.ofString t.nm) = none
theorem pa_tys (hf : TysFree X) : ∀ {ts : List Ty} {ys : List Expr}, meTys X.env.scope ts ys = true → PA X ys (tTys ts)
  | [], [], _ => pa_nil
  | [], _ :: _, h => by simp [meTys] at h
  | _ :: _, [], h => by simp [meTys] at h
  | t :: ts, y :: ys, h => by
    cases y <;> simp only [meTys, Bool.false_eq_true] at h
    simp only [Bool.and_eq_true, decide_eq_true_eq] at h
    obtain ⟨⟨⟨rfl, h2⟩, h3⟩, h4⟩ := h
    obtain ⟨b1, b2, b3⟩ := ty_boot h2
    exact pa_cons (pe_bltn (v := V.ty t.nm) (glB_gl h3) (hf t) b1 rfl b2 b3) (pa_tys hf h4)
theorem snd_isi {e : E} {ts : List Ty} (h : SndE T e) : SndE T (.isi e ts) := by
  have ih := snd_iff.mp h
  refine snd_iff.mpr fun X G ER W k g q he σ S r Γ' ht o => ?_
  obtain ⟨a, cl, pos, cpos, rfl, hgl, hpa, hma, hty⟩ : ∃ a cl pos cpos, q = .Call (.Name "isinstance" pos) [a, cl] [] cpos ∧ glB X.env.scope "isinstance" = true ∧ plainX a = true ∧ meE T X.N X.env.scope e a = true ∧ meTy X.env.scope ts cl = true := by
    simp only [meE] at he
    split at he
    · simp only [Bool.and_eq_true, decide_eq_true_eq] at he
      obtain ⟨⟨⟨⟨rfl, h1⟩, h2⟩, h3⟩, h4⟩ := he
      exact ⟨_, _, _, _, rfl, h1, h2, h3, h4⟩
    · cases he
  simp only [typE] at ht
  cases t1 : typE T e S.G with
  | none => simp [t1] at ht
  | some p1 =>
    obtain ⟨r1, Γ1⟩ := p1
    simp only [t1, Option.some.injEq, Prod.mk.injEq] at ht
    obtain ⟨rfl, rfl⟩ := ht
    have s1 := ih X G ER W k g a hma σ S r1 Γ1 t1 o
    have tE : tchE (.isi e ts) = tchE e := by simp [tchE]
    -- by which rule
    have run : ∀ Q : VK, WE X a σ S.H (fun w H1 => ∃ v, Top X.K H1 v w ∧ (∀ p u, H1 p = none → Top X.K (upd H1 p u) v w) ∧ Q (.bl (ts.any (isTy v))) H1 ∧ ∀ p u, H1 p = none → Q (.bl (ts.any (isTy v))) (upd H1 p u)) → WE X (.Call (.Name "isinstance" pos) [a, cl] [] cpos) σ S.H Q := by
      intro Q h
      cases cl <;> simp only [meTy, Bool.false_eq_true] at hty
      · -- one type
        rename_i y yp
        obtain ⟨nc, pl, ll⟩ := meTys_nc hty
        obtain ⟨t, rfl⟩ := len1 ll
        simp only [meTys, Bool.and_true, Bool.and_eq_true, decide_eq_true_eq] at hty
        obtain ⟨⟨rfl, h2⟩, h3⟩ := hty
        obtain ⟨b1, b2, b3⟩ := ty_boot h2
        have pt : plainX (.Name (Str.ofString t.nm) yp) = true := rfl
        have rule := pe_callB (p := pos) (pos := cpos) (X := X) (call_isi (X := X)) (glB_gl hgl) g.isin PyProof.Rows.boot_isinstance (pa_cons (pe_we (X := X) (e := a)) (pa_cons (pe_bltn (pos := yp) (v := V.ty t.nm) (glB_gl h3) (g.tys t) b1 rfl b2 b3) pa_nil (star1 pt)) (star_plain hpa)) (by decide) (by decide) (star_plain hpa) (backTo_plain (by simp [pt])).2
        refine .of rule (WE.imp h fun w H1 ⟨v, t0, t1, q0, q1⟩ => ⟨w, .ty t.nm, _, _, _, rfl, .ty _, ty_top t0, kit_one t0 t (nc t (by simp)), ?_⟩)
        simpa using q0
      · -- a display
        rename_i ys kk tp
        simp only [Bool.and_eq_true, decide_eq_true_eq] at hty
        obtain ⟨nc, pl, ll⟩ := meTys_nc hty.2
        have pt : plainX (.Tuple ys kk tp) = true := rfl
        have rule := pe_callB (p := pos) (pos := cpos) (X := X) (call_isiT (X := X)) (glB_gl hgl) g.isin PyProof.Rows.boot_isinstance (pa_cons (pe_we (X := X) (e := a)) (pa_cons (pe_tup (pa_tys g.tys hty.2)) pa_nil (star1 pt)) (star_plain hpa)) (by decide) (by decide) (star_plain hpa) (backTo_plain (by simp [pt])).2
        refine .of rule (WE.imp h fun w H1 ⟨v, t0, t1, q0, q1⟩ => ⟨?_, fun p hp => ⟨w, p, _, _, _, _, rfl, upd_same, ?_, ty_top (t1 p _ hp), kit_any (t1 p (.tup (ts.map fun t => V.ty t.nm)) hp) nc, q1 p _ hp⟩⟩)
        · simp only [List.length_map]
          rw [sizeLine_eq]; omega
        · have : ∀ ts : List Ty, Paired ClsV (ts.map fun t => V.ty t.nm) (ts.map fun t => Value.type t.nm) := by
            intro ts
            induction ts with
            | nil => exact .nil
            | cons t ts ih => exact .cons (.ty _) ih
          exact this ts
    refine ⟨fun v env' ev Q hQ => ?_, fun y ev Q hQ => ?_⟩
    · simp only [evalE] at ev
      obtain ⟨⟨v1, env1⟩, ev1, ev⟩ := Res.bind_ok.mp ev
      have hev : v = .bl (ts.any (isTy v1)) ∧ env' = env1 := by
        cases v1 <;> simp only [reduceCtorEq, Res.ok.injEq, Prod.mk.injEq] at ev <;> exact ⟨ev.1.symm, ev.2.symm⟩
      obtain ⟨rfl, rfl⟩ := hev
      refine run Q (s1.ok v1 env' ev1 _ fun S1 w F g1 => ⟨v1, g1.tmp.rep.top, fun p u hp => ?_, hQ S1 _ [] (tE ▸ Got.bl g1.stepd), fun p u hp => ?_⟩)
      · have := (g1.tmp.rep.keep (W := fun _ => False) (kp_new (o := u) hp) (fun _ _ z => z) (fun _ _ z => z) (fun _ z => z)).top
        exact this
      · exact hQ (S1.atH (upd S1.H p u)) _ [] (tE ▸ Got.bl ⟨g1.env, g1.g, g1.stp.trans (.alloc hp), g1.ok.alloc hp⟩)
    · simp only [evalE] at ev
      rcases Res.bind_exc.mp ev with ev | ⟨⟨v1, env1⟩, _, ev⟩
      · exact run Q (s1.exc y ev _ (tE ▸ hQ))
      · exfalso
        cases v1 <;> simp at ev
end
end OI
set_option maxRecDepth 100000
set_option maxHeartbeats 4000000
/-! OI45: methods that change nothing. -/
namespace OI
open PySem PySem.Spec PyProof.Rows L2
section
variable {T : List FnA} {X : Cx} {K : PySem.W.Frag} {c : Lp} {σ σ' σ2 σ0 : St} {S S' S2 S0 S1 : ASt} {M M' : List Nat} {H H' : Hp} {Z : Addr → Prop}
theorem me_meth {N : List Str} {sc : Scope} {m : Meth} {args : List E} {q : Expr} (h : meE T N sc (.meth m args) q = true) : ∃ o apos qs cpos o' args', args = o' :: args' ∧ q = .Call (.Attribute o (Str.ofString m.nm) apos) qs [] cpos ∧ (apos.endLine == cpos.line) = true ∧ plainBase o = true ∧ qs.length < 20 ∧ plainX o = true ∧ meE T N sc o' o = true ∧ meEs T N sc args' qs = true := by
  simp only [meE] at h
  split at h
  · rename_i o a apos qs cpos
    simp only [Bool.and_eq_true, decide_eq_true_eq] at h
    obtain ⟨⟨⟨⟨rfl, h1⟩, h2⟩, h3⟩, h4⟩ := h
    cases args with
    | nil => simp [meEs] at h4
    | cons o' args' =>
      simp only [meEs, Bool.and_eq_true] at h4
      exact ⟨o, apos, qs, cpos, o', args', rfl, rfl, h1, h2, h3, h4.1.1, h4.1.2, h4.2⟩
  · cases h
/-- one value in hand more -/
theorem gots_cons {e : E} {es' : List E} {env1 env' : Env} {Γ1 Γ2 : List Gt} {r1 : TR} {rs2 : List TR} {v : PV} {vs2 : List PV} {w : V} {ws : List V} {F : List Addr} {Fl : List (List Addr)} (o : Ok K σ S)
    (g1 : Got K σ (tchE e) S env1 Γ1 r1 v S1 w F) (g2 : Gots K σ (tchEs es') S1 env' Γ2 rs2 vs2 S2 ws Fl) (hsrc : srcFree (tchEs es') r1.2 = true) : Gots K σ (tchEs (e :: es')) S env' Γ2 (r1 :: rs2) (v :: vs2) S2 (w :: ws) (F :: Fl) := by
  have m1 := g1.stp.mono (M' := tchEs (e :: es')) fun i hi => by simp only [tchEs]; exact List.mem_append_left _ hi
  have m2 := g2.stp.mono (M' := tchEs (e :: es')) fun i hi => by simp only [tchEs]; exact List.mem_append_right _ hi
  have ts := g1.tmp.step g1.ok g2.stp fun x hx => by
    rw [hx] at hsrc
    simpa [srcFree] using hsrc
  refine ⟨g2.env, g2.g, m1.trans m2, g2.ok, .cons ts g2.tmps fun hn Gj hG a ha hb => ?_, fun j r F' hr hF hn a ha => ?_⟩
  · obtain ⟨j, hj⟩ := List.mem_iff_getElem?.mp hG
    obtain ⟨r', v', w', hr', _, _, tj⟩ := g2.tmps.all j Gj hj
    obtain ⟨ob, eo, _⟩ := g1.tmp.rep.trk a ha
    cases hs' : r'.2 with
    | none =>
      rcases g2.new j r' Gj hr' hj hs' a hb with z | ⟨i, _, z⟩
      · rw [eo] at z; cases z
      · exact g1.tmp.own hn i a ha z
    | some x =>
      rcases g2.stp.fnew x a (tj.bor x hs' a hb) with z | z | ⟨i, _, z⟩
      · exact g1.tmp.own hn x a ha z
      · rw [eo] at z; cases z
      · exact g1.tmp.own hn i a ha z
  · cases j with
    | zero =>
      simp at hr hF
      subst hr hF
      rcases g1.new hn a ha with z | ⟨i, hi, z⟩
      · exact .inl z
      · exact .inr ⟨i, by simp only [tchEs]; exact List.mem_append_left _ hi, z⟩
    | succ j =>
      rcases g2.new j r F' (by simpa using hr) (by simpa using hF) hn a ha with z | ⟨i, hi, z⟩
      · refine .inl ?_
        cases q0 : S.H a with
        | none => rfl
        | some u => exact absurd z (g1.stp.live a (by simp [q0]))
      · rcases m1.fnew i a z with z | z | z
        · exact .inr ⟨i, by simp only [tchEs]; exact List.mem_append_right _ hi, z⟩
        · exact .inl z
        · exact .inr z
/-- a rule of a type's method -/
def MRule (X : Cx) (name : Str) (t id : String) (r : V → List V → Hp → VK → Prop) : Prop := PlainAttrs t ∧ Slot t name id ∧ typeOf (.builtin id) = pure (.type "method_descriptor") ∧ MtR X id r
/-- what there is of a method with n arguments -/
def MVal (X : Cx) (m : Meth) (n : Nat) : Prop := ∃ id r, MRule X (Str.ofString m.nm) m.ty id r ∧
  ∀ {S : ASt} {rs : List TR} {v0 : PV} {w0 : V} {vs : List PV} {ws : List V} {Fl : List (List Addr)} {v : PV} {τ : Tp}, vs.length = n → Tmps X.K S rs (v0 :: vs) (w0 :: ws) Fl → methP m (v0 :: vs) = .ok v → m.gives rs = some τ →
    ∃ w, RepT X.K S.H S.Z τ v w [] ∧ ∀ Q : VK, Q w S.H → r w0 ws S.H Q
theorem recv_ty {m : Meth} {v0 : PV} {w0 : V} (h : recvOk m v0 = true) (t : Top X.K H v0 w0) : TyAt X H w0 m.ty := by
  cases t <;> simp only [recvOk, Bool.false_eq_true, beq_iff_eq] at h
  · rw [h]; exact tyAt_str
  · rename_i hr hl
    rw [h]; exact tyAt_list hr
  · rename_i h1 h2 h3
    rw [h]; exact tyAt_dct h1 h2
theorem methP_recv {m : Meth} {v0 v : PV} {vs : List PV} (h : methP m (v0 :: vs) = .ok v) : recvOk m v0 = true := by
  unfold methP at h
  split at h <;> first | (rename_i e; cases e; rfl) | (cases h)
theorem methP_exc {m : Meth} {x : PV} {vs : List PV} : methP m vs ≠ .exc x := by
  intro h
  unfold methP at h
  split at h
  all_goals first
    | (cases h; done)
    | (unfold getP at h; split at h <;> (obtain ⟨_, h⟩ := need_exc.mp h; cases h); done)
    | (obtain ⟨_, h⟩ := need_exc.mp h; first | (cases h; done) | (split at h <;> cases h; done))
    | (split at h <;> first | (cases h; done) | (obtain ⟨_, h⟩ := need_exc.mp h; cases h; done))
theorem tmps_len {rs : List TR} {vs : List PV} {ws : List V} {Fl : List (List Addr)} (h : Tmps K S rs vs ws Fl) : rs.length = vs.length ∧ ws.length = vs.length := by
  induction h with
  | nil => exact ⟨rfl, rfl⟩
  | cons _ _ _ ih => simp [ih.1, ih.2]
theorem typEs_var {i : Nat} {es : List E} {Γ Γ' : List Gt} {rs : List TR} (h : typEs T (.var i :: es) Γ = some (rs, Γ')) : ∃ p0 rs2 Γ2 r1, typE T (.var i) Γ = some p0 ∧ typEs T es Γ = some (rs2, Γ2) ∧ typE T (.var i) Γ2 = some (r1, Γ') ∧ rs = r1 :: rs2 := by
  simp only [typEs, E.late] at h
  cases t0 : typE T (.var i) Γ with
  | none => simp [t0] at h
  | some p0 =>
    simp only [t0] at h
    cases t2 : typEs T es Γ with
    | none => simp [t2] at h
    | some p2 =>
      obtain ⟨rs2, Γ2⟩ := p2
      simp only [t2] at h
      cases t1 : typE T (.var i) Γ2 with
      | none => simp [t1] at h
      | some p1 =>
        obtain ⟨r1, Γ1⟩ := p1
        simp only [t1, Option.some.injEq, Prod.mk.injEq] at h
        obtain ⟨rfl, rfl⟩ := h
        exact ⟨p0, rs2, Γ2, r1, rfl, rfl, t1, rfl⟩
theorem typEs_not {e : E} {es : List E} {Γ Γ' : List Gt} {rs : List TR} (hl : e.late = false) (h : typEs T (e :: es) Γ = some (rs, Γ')) : ∃ r1 Γ1 rs2, typE T e Γ = some (r1, Γ1) ∧ typEs T es Γ1 = some (rs2, Γ') ∧ srcFree (tchEs es) r1.2 = true ∧ rs = r1 :: rs2 := by
  simp only [typEs, hl] at h
  cases t1 : typE T e Γ with
  | none => simp [t1] at h
  | some p1 =>
    obtain ⟨r1, Γ1⟩ := p1
    simp only [t1] at h
    cases t2 : typEs T es Γ1 with
    | none => simp [t2] at h
    | some p2 =>
      obtain ⟨rs2, Γ2⟩ := p2
      simp only [t2] at h
      split at h
      · rename_i hsrc
        cases h
        exact ⟨r1, Γ1, rs2, rfl, t2, hsrc, rfl⟩
      · cases h
theorem typEs_len : ∀ {es : List E} {Γ Γ' : List Gt} {rs : List TR}, typEs T es Γ = some (rs, Γ') → rs.length = es.length
  | [], Γ, Γ', rs, h => by simp only [typEs, Option.some.injEq, Prod.mk.injEq] at h; rw [← h.1]; rfl
  | e :: es, Γ, Γ', rs, h => by
    cases hl : e.late with
    | true =>
      obtain ⟨i, rfl⟩ := late_var hl
      obtain ⟨p0, rs2, Γ2, r1, y0, y2, y1, rfl⟩ := typEs_var h
      simp [typEs_len y2]
    | false =>
      obtain ⟨r1, Γ0, rs2, y1, y2, hsrc, rfl⟩ := typEs_not hl h
      simp [typEs_len y2]
/-- a method by its values -/
theorem snd_meth {m : Meth} {args : List E} (hs : ∀ e ∈ args, SndE T e) (hv : ∀ {X : Cx} {W : WX} {G : Ctx} {ER : ERel} {k : Nat}, Good X T G ER W k → ∀ {rs : List TR} {τ : Tp}, m.gives rs = some τ → MVal X m (rs.length - 1)) : SndE T (.meth m args) := by
  refine snd_iff.mpr fun X G ER W k g q he σ S r Γ' ht o => ?_
  obtain ⟨oe, apos, qs, cpos, o', args', rfl, rfl, hline, hb, hn, hpo, hmo, hma⟩ := me_meth he
  have ho := snd_iff.mp (hs o' List.mem_cons_self)
  have ha := snds_iff.mp (snds_of fun e he => hs e (List.mem_cons_of_mem _ he))
  simp only [typE] at ht
  cases t1 : typEs T (o' :: args') S.G with
  | none => simp [t1] at ht
  | some p1 =>
    obtain ⟨rs, Γ1⟩ := p1
    simp only [t1, Option.map_eq_some_iff, Prod.mk.injEq] at ht
    obtain ⟨τ, hg, rfl, rfl⟩ := ht
    have tE : tchE (.meth m (o' :: args')) = tchEs (o' :: args') := by simp [tchE]
    have rule := pe_mAny (X := X) (name := Str.ofString m.nm) (apos := apos) (cpos := cpos) (es := qs) (pe_we (X := X) (e := oe)) hb hline (meEs_plain hma) hn
    have hlen := typEs_len t1
    obtain ⟨id, r0, ⟨b1, b2, b3, b4⟩, val⟩ := hv g hg
    -- from the receiver on
    have from_ : ∀ {w0 : V} {H1 : Hp} {Q : VK}, TyAt X H1 w0 m.ty → WL X qs σ H1 (fun xs H2 => r0 w0 xs H2 Q) → MAny X (Str.ofString m.nm) w0 H1 fun r => WL X qs σ H1 fun xs H2 => r w0 xs H2 Q :=
      fun ty h => ⟨_, _, _, b1, b2, b3, b4, ty, h⟩
    have fin : ∀ {vs' : List PV} {v0 v : PV} {env' : Env} {w0 : V} {ws : List V} {Fl : List (List Addr)} {S2 : ASt} {Q : VK}, (∀ S' w F, Got X.K σ (tchE (.meth m (o' :: args'))) S env' Γ1 (τ, none) v S' w F → Q w S'.H) → Gots X.K σ (tchEs (o' :: args')) S env' Γ1 rs (v0 :: vs') S2 (w0 :: ws) Fl →
        methP m (v0 :: vs') = .ok v → r0 w0 ws S2.H Q := by
      intro vs' v0 v env' w0 ws Fl S2 Q hQ g2 hm
      have hl := (tmps_len g2.tmps).1
      obtain ⟨w, rp, h⟩ := val (by rw [hl]; rfl) g2.tmps hm hg
      exact h Q (hQ S2 w [] ⟨g2.env, g2.g, tE ▸ g2.stp, g2.ok, ⟨rp, fun _ _ _ h => (nomatch h), fun _ _ _ h => (nomatch h), fun _ h => (nomatch h)⟩, fun _ _ h => (nomatch h)⟩)
    cases hl : o'.late with
    | true =>
      obtain ⟨i, rfl⟩ := late_var hl
      obtain ⟨p0, rs2, Γ2, r1, y0, y2, y1, rfl⟩ := typEs_var t1
      have tC : tchEs (.var i :: args') = tchEs args' := by simp [tchEs, tchE]
      cases oe <;> simp only [meE, Bool.false_eq_true] at hmo
      rename_i x pos
      have s2 := ha X G ER W k g qs hma σ S rs2 Γ2 y2 o
      refine ⟨fun v env' ev Q hQ => ?_, fun y ev Q hQ => ?_⟩
      · simp only [evalE, methPre, methA] at ev
        obtain ⟨⟨⟩, ev0, ev⟩ := Res.bind_ok.mp ev
        obtain ⟨u, evu, ev0⟩ := Res.bind_ok.mp ev0
        obtain ⟨hrc, _⟩ := need_ok.mp ev0
        obtain ⟨⟨vs, env1⟩, ev1, ev⟩ := Res.bind_ok.mp ev
        obtain ⟨v', ev2, ev⟩ := Res.bind_ok.mp ev
        simp only [Res.ok.injEq, Prod.mk.injEq] at ev
        obtain ⟨rfl, rfl⟩ := ev
        simp only [evalEs, hl, Res.bind_ok, evalE] at ev1
        obtain ⟨a0, ⟨v0, evv0, _⟩, ⟨vs2, env2⟩, ev3, ⟨v1, env3⟩, ⟨v1', ev4, e4⟩, e5⟩ := ev1
        cases e4
        cases e5
        obtain ⟨p0a, p0b⟩ := p0
        obtain ⟨w0, F0, hw, _, tm0, _⟩ := var_got o y0 evu
        refine .of rule (we_var hmo hw (from_ (recv_ty hrc tm0.rep.top) (s2.ok vs2 env2 ev3 _ fun S2 ws Fl g2 => ?_)))
        obtain ⟨w', F, hw', eG, tm, hF0⟩ := var_got g2.ok (by rw [g2.g]; exact y1) (by rw [g2.env]; exact ev4)
        rw [hw] at hw'
        cases hw'
        rw [g2.g] at eG
        refine fin (Fl := F :: Fl) hQ ⟨g2.env, g2.g.trans eG.symm, tC ▸ g2.stp, g2.ok, .cons tm g2.tmps fun hn Gj hG a ha => ?_, fun j r F' hr hF hn a ha => ?_⟩ ev2
        · rw [hF0 hn] at ha; cases ha
        · cases j with
          | zero => simp at hr hF; subst hr hF; rw [hF0 hn] at ha; cases ha
          | succ j => rw [tC]; exact g2.new j r F' (by simpa using hr) (by simpa using hF) hn a ha
      · simp only [evalE, methPre, methA] at ev
        rcases Res.bind_exc.mp ev with ev | ⟨⟨⟩, ev0, ev⟩
        · rcases Res.bind_exc.mp ev with ev | ⟨_, _, ev⟩
          · exact absurd ev getV_exc
          · obtain ⟨_, ev⟩ := need_exc.mp ev
            cases ev
        · obtain ⟨u, evu, ev0⟩ := Res.bind_ok.mp ev0
          obtain ⟨hrc, _⟩ := need_ok.mp ev0
          obtain ⟨p0a, p0b⟩ := p0
          obtain ⟨w0, F0, hw, _, tm0, _⟩ := var_got o y0 evu
          rcases Res.bind_exc.mp ev with ev | ⟨_, _, ev⟩
          · simp only [evalEs, hl, Res.bind_exc, evalE, Res.bind_ok] at ev
            rcases ev with ev | ⟨a0, ⟨v0, ev0, _⟩, ev⟩
            · rcases ev with ev | ⟨_, _, ev⟩
              · exact absurd ev getV_exc
              · cases ev
            · rcases ev with ev | ⟨_, _, ev⟩
              · exact .of rule (we_var hmo hw (from_ (recv_ty hrc tm0.rep.top) (s2.exc y ev _ ((tE.trans tC) ▸ hQ))))
              · rcases ev with (ev | ⟨_, _, ev⟩) | ⟨_, _, ev⟩
                · exact absurd ev getV_exc
                · cases ev
                · cases ev
          · rcases Res.bind_exc.mp ev with ev | ⟨_, _, ev⟩
            · exact absurd ev methP_exc
            · cases ev
    | false =>
      obtain ⟨r1, Γ0, rs2, y1, y2, hsrc, rfl⟩ := typEs_not hl t1
      have s1 := ho X G ER W k g oe hmo σ S r1 Γ0 y1 o
      have pre : methPre m (o' :: args') S.env = .ok () := by
        cases o' <;> first | rfl | (simp [E.late] at hl)
      have arg : ∀ {α : Type} (r : Res α), methA (o' :: args') r = noExc r := by
        intro α r
        cases o' <;> first | rfl | (simp [E.late] at hl)
      refine ⟨fun v env' ev Q hQ => ?_, fun y ev Q hQ => ?_⟩
      · simp only [evalE, pre, arg] at ev
        obtain ⟨⟨⟩, _, ev⟩ := Res.bind_ok.mp ev
        obtain ⟨⟨vs, env1⟩, ev1, ev⟩ := Res.bind_ok.mp ev
        obtain ⟨v', ev2, ev⟩ := Res.bind_ok.mp ev
        simp only [Res.ok.injEq, Prod.mk.injEq] at ev
        obtain ⟨rfl, rfl⟩ := ev
        have ev1 := noExc_ok.mp ev1
        simp only [evalEs, hl, Res.bind_ok] at ev1
        obtain ⟨⟨v0, env0⟩, ev0, ⟨vs2, env2⟩, ev3, e5⟩ := ev1
        cases e5
        refine .of rule (s1.ok v0 env0 ev0 _ fun S1 w0 F g1 => from_ (recv_ty (methP_recv ev2) g1.tmp.rep.top) ?_)
        have s2 := ha X G ER W k g qs hma σ S1 rs2 _ (by rw [g1.g]; exact y2) g1.ok
        exact s2.ok vs2 env2 (by rw [g1.env]; exact ev3) _ fun S2 ws Fl g2 => fin hQ (gots_cons o g1 g2 hsrc) ev2
      · exfalso
        simp only [evalE, pre, arg] at ev
        rcases Res.bind_exc.mp ev with ev | ⟨⟨⟩, _, ev⟩
        · cases ev
        · rcases Res.bind_exc.mp ev with ev | ⟨_, _, ev⟩
          · exact absurd ev noExc_exc
          · rcases Res.bind_exc.mp ev with ev | ⟨_, _, ev⟩
            · exact absurd ev methP_exc
            · cases ev
end
end OI
set_option maxRecDepth 100000
set_option maxHeartbeats 4000000
/-! OI46: get, join. -/
namespace OI
open PySem PySem.Spec PyProof.Rows L2
section
variable {T : List FnA} {X : Cx} {K : PySem.W.Frag} {c : Lp} {σ σ' σ2 σ0 : St} {S S' S2 S0 S1 : ASt} {M M' : List Nat} {H H' : Hp} {Z : Addr → Prop}
theorem d_getN1 {pins : List (Addr × Obj)} {H : Hp} {σ : St} {s : Shared} {a : Addr} {kvs : List (Key × V)} {A : Around} {E : Value → Shared → Prop} {Q : Value → Shared → Prop} (I : Inv X pins σ H s) (e : Rd H a (.dK kvs)) (h : ∀ s', Inv X pins σ H s' → Q .none s') :
    wpAny (model X.prog X.w) A (call (.builtin "dict.get") [.ref a, .none]) Q E s := by
  obtain ⟨z, hd, vs, rel, dd⟩ := dk_rd I.hok e
  obtain ⟨f, hm, hf⟩ := none_map dd
  refine call_meetsIn PySem.F.slot_dict_get dd.typeIs PySem.F.entry_dict_get (PySem.F.args_dict_get_2 _ _) (meets_dict_get (noneKind X.prog X.w) (k := none) a (show (noneKind X.prog X.w).is none .none = true from rfl) hd) ⟨_, hm, ?_⟩
  rw [hf]
  exact h _ (I.tok _)
theorem d_getN2 {pins : List (Addr × Obj)} {H : Hp} {σ : St} {s : Shared} {a : Addr} {kvs : List (Key × V)} {A : Around} {E : Value → Shared → Prop} {r : Value} {Q : Value → Shared → Prop} (I : Inv X pins σ H s) (e : Rd H a (.dK kvs)) (h : ∀ s', Inv X pins σ H s' → Q r s') :
    wpAny (model X.prog X.w) A (call (.builtin "dict.get") [.ref a, .none, r]) Q E s := by
  obtain ⟨z, hd, vs, rel, dd⟩ := dk_rd I.hok e
  obtain ⟨f, hm, hf⟩ := none_map dd
  refine call_meetsIn PySem.F.slot_dict_get dd.typeIs PySem.F.entry_dict_get (PySem.F.args_dict_get_3 _ _ _) (meets_dict_get_default (noneKind X.prog X.w) (k := none) a (show (noneKind X.prog X.w).is none .none = true from rfl) hd r) ⟨_, hm, ?_⟩
  rw [hf]
  exact h _ (I.tok _)
/-- what get looks up: a key, or None -/
def DGetN (H : Hp) (a : Addr) (y : V) (o : Option V) : Prop := DGet H a y o ∨ (∃ kvs, Rd H a (.dK kvs) ∧ y = .non ∧ o = none)
theorem mt_dget1 (hu : X.A.units + 1 < cLine) : MtR X "dict.get" (fun x xs H Q => ∃ a y o, x = .ref a ∧ xs = [y] ∧ DGetN H a y o ∧ Q (o.getD .non) H) := by
  intro pins s σ H x xs v us Q I rx rs h
  obtain ⟨a, y, o, rfl, rfl, g, q⟩ := h
  obtain rfl : v = Value.ref a := rx
  cases rs with
  | cons r1 rs =>
    cases rs
    rcases g with g | ⟨kvs, g, rfl, rfl⟩
    · exact d_get1 hu I g r1 fun w' s' I' r' => ⟨_, H, I', r', q⟩
    · rename_i u
      obtain rfl : u = Value.none := r1
      exact d_getN1 I g fun s' I' => ⟨.non, H, I', rfl, q⟩
theorem mt_dget2 (hu : X.A.units + 1 < cLine) : MtR X "dict.get" (fun x xs H Q => ∃ a y d o, x = .ref a ∧ xs = [y, d] ∧ DGetN H a y o ∧ Q (o.getD d) H) := by
  intro pins s σ H x xs v us Q I rx rs h
  obtain ⟨a, y, d, o, rfl, rfl, g, q⟩ := h
  obtain rfl : v = Value.ref a := rx
  cases rs with
  | cons r1 rs =>
    cases rs with
    | cons r2 rs =>
      cases rs
      rcases g with g | ⟨kvs, g, rfl, rfl⟩
      · exact d_get2 hu I g r1 r2 fun w' s' I' r' => ⟨_, H, I', r', q⟩
      · rename_i u _
        obtain rfl : u = Value.none := r1
        exact d_getN2 I g fun s' I' => ⟨d, H, I', r2, q⟩
/-- what get finds -/
theorem get_find {t : Bool} {u : HO} {ks vs : List PV} {ws : List V} (hd : Dct t u ks ws) (hr : Reps K H Z 0 vs ws []) (k : PV) : ∃ o, ((fndP k ks).bind fun i => ws[i]?) = o ∧
    ((lookP k ks vs = none ∧ o = none) ∨ ∃ v w, lookP k ks vs = some v ∧ o = some w ∧ Rep K H Z 0 v w []) := by
  refine ⟨_, rfl, ?_⟩
  cases e : lookP k ks vs with
  | none =>
    refine .inl ⟨rfl, ?_⟩
    rw [lookP_fnd (hd.lens.trans hr.length.symm)] at e
    have := bind_some_eq (k := k) hd.lens hr.length
    rw [e] at this
    simpa using this.symm
  | some v =>
    obtain ⟨j, e1, e2⟩ := fnd_item hd.lens hr.length e
    obtain ⟨w, F', e3, r, s⟩ := hr.get e1
    have : F' = [] := Rep.zeroF r
    subst this
    exact .inr ⟨v, w, rfl, e2 w e3, r⟩
theorem getP_of {t : Bool} {u : HO} {ks vs : List PV} {ws : List V} {a : Addr} {k df v : PV} {y : V} {d : Nat} {F : List Addr} (hm : getP t ks vs k df = .ok v) (hd : Dct t u ks ws) (h1 : Rd H a u) (h3 : Reps K H Z 0 vs ws []) (rk : Rep K H Z d k y F) :
    ∃ o, DGetN H a y o ∧ ((v = df ∧ o = none) ∨ ∃ w, o = some w ∧ Rep K H Z 0 v w []) := by
  unfold getP at hm
  split at hm
  · rename_i hn
    obtain ⟨rfl, hm⟩ := need_ok.mp hm
    cases hm
    cases k <;> simp only [isNon, Bool.false_eq_true] at hn
    cases rk
    cases hd
    exact ⟨none, .inr ⟨_, h1, rfl, rfl⟩, .inl ⟨rfl, rfl⟩⟩
  · obtain ⟨hk, hm⟩ := need_ok.mp hm
    cases hm
    have g := dget_of hd h1 hk rk
    obtain ⟨o, e1, hc⟩ := get_find hd h3 k
    rw [e1] at g
    rcases hc with ⟨e2, rfl⟩ | ⟨v, w, e2, rfl, rp⟩
    · exact ⟨none, .inl g, .inl ⟨by rw [e2]; rfl, rfl⟩⟩
    · exact ⟨some w, .inl g, .inr ⟨w, rfl, by rw [e2]; exact rp⟩⟩
theorem val_get {rs : List TR} {τ : Tp} (hu : X.A.units + 1 < cLine) (hg : Meth.gives .get rs = some τ) : MVal X .get (rs.length - 1) := by
  match rs, hg with
  | [r, r2], hg =>
    refine ⟨_, _, ⟨PySem.F.plainAttrs_dict, PySem.F.slot_dict_get, PySem.F.type_dict_get, mt_dget1 hu⟩, ?_⟩
    intro S rs v0 w0 vs ws Fl v τ hl tms hm hg
    match vs, hl with
    | [k], _ =>
    cases tms with
    | cons tm tms' _ =>
    cases tms' with
    | cons tk tms'' _ =>
    cases tms''
    rename_i r0 w F0 rk wk Fk tms
    cases v0 <;> simp only [methP, reduceCtorEq] at hm
    rename_i t ks vs
    simp only [Meth.gives] at hg
    split at hg
    · rename_i hsh
      cases hg
      cases tm.shal hsh with
      | at_ _ _ _ h => exact absurd rfl (h t ks vs)
      | @dct _ _ _ a u ws h1 h2 h3 =>
        obtain ⟨d, Fk', rk'⟩ := RepT.any tk.rep
        obtain ⟨o, g, hc⟩ := getP_of hm h2 (.of h1) h3 rk'
        rcases hc with ⟨rfl, rfl⟩ | ⟨w, rfl, rp⟩
        · exact ⟨.non, .non, fun Q q => ⟨a, _, none, rfl, rfl, g, q⟩⟩
        · exact ⟨w, rp, fun Q q => ⟨a, _, some w, rfl, rfl, g, q⟩⟩
    · cases hg
  | [r, r2, r3], hg =>
    refine ⟨_, _, ⟨PySem.F.plainAttrs_dict, PySem.F.slot_dict_get, PySem.F.type_dict_get, mt_dget2 hu⟩, ?_⟩
    intro S rs v0 w0 vs ws Fl v τ hl tms hm hg
    match vs, hl with
    | [k, df], _ =>
    cases tms with
    | cons tm tms' _ =>
    cases tms' with
    | cons tk tms'' _ =>
    cases tms'' with
    | @cons _ _ dv _ wd _ Fd _ td tms3 _ =>
    cases tms3
    cases v0 <;> simp only [methP, reduceCtorEq] at hm
    rename_i t ks vs
    simp only [Meth.gives] at hg
    split at hg
    · rename_i hsh
      cases hg
      simp only [Bool.and_eq_true, Bool.or_eq_true, beq_iff_eq] at hsh
      cases tm.shal hsh.1 with
      | at_ _ _ _ h => exact absurd rfl (h t ks vs)
      | @dct _ _ _ a u ws h1 h2 h3 =>
        obtain ⟨d, Fk', rk'⟩ := RepT.any tk.rep
        obtain ⟨o, g, hc⟩ := getP_of hm h2 (.of h1) h3 rk'
        rcases hc with ⟨rfl, rfl⟩ | ⟨w, rfl, rp⟩
        · have td0 : RepT X.K S.H S.Z (.d 0) v wd [] := by
            have r3 := td.rep
            rcases hsh.2 with h | h
            · rw [h] at r3
              exact r3.cl0.2 S.Z 0
            · rw [h] at r3
              have r3 : Rep X.K S.H S.Z 0 _ _ _ := r3
              have := Rep.zeroF r3
              subst this
              exact r3
          exact ⟨wd, td0, fun Q q => ⟨a, _, _, none, rfl, rfl, g, q⟩⟩
        · exact ⟨w, rp, fun Q q => ⟨a, _, _, some w, rfl, rfl, g, q⟩⟩
    · cases hg
theorem join_eq (sep : Str) : ∀ ss : List Str, joinP sep ss = Str.join sep ss
  | [] => rfl
  | [x] => rfl
  | x :: y :: r => by
    show x ++ sep ++ joinP sep (y :: r) = x ++ sep ++ Str.join sep (y :: r)
    rw [join_eq sep (y :: r)]
theorem strs_reps {d : Nat} : ∀ {vs : List PV} {ws : List V} {F : List Addr} {ss : List Str}, Reps K H Z d vs ws F → strsOf vs = some ss → ws = ss.map V.str
  | [], ws, F, ss, h, e => by cases h; simp only [strsOf, Option.some.injEq] at e; subst e; rfl
  | v :: vs, ws, F, ss, h, e => by
    cases v <;> simp only [strsOf, reduceCtorEq, Option.map_eq_some_iff] at e
    obtain ⟨ss', e, rfl⟩ := e
    cases h with
    | cons h1 h2 _ =>
      cases h1
      rw [strs_reps h2 e]
      rfl
theorem val_join {rs : List TR} {τ : Tp} (hg : Meth.gives .join rs = some τ) : MVal X .join (rs.length - 1) := by
  refine ⟨_, _, ⟨PySem.F.plainAttrs_str, PySem.F.slot_str_join, PySem.F.type_str_join, mt_join⟩, ?_⟩
  intro S rs v0 w0 vs ws Fl v τ hl tms hm hg
  simp only [Meth.gives, Option.some.injEq] at hg
  subst hg
  cases v0 <;> try (simp only [methP, reduceCtorEq] at hm)
  rename_i s
  match vs, tms, hm with
  | [], _, hm => simp [methP] at hm
  | [_], tms, hm =>
    rename_i b
    cases tms with
    | cons tm tms' _ =>
    cases tms' with
    | cons tk tms'' _ =>
    cases tms''
    simp only [methP] at hm
    split at hm
    · rename_i ss hs
      obtain ⟨xs, hx, hs⟩ := Option.bind_eq_some_iff.mp hs
      obtain ⟨hz, hm⟩ := need_ok.mp hm
      cases hm
      obtain ⟨d0, F0, r0⟩ := RepT.any tm.rep
      cases r0
      obtain ⟨dk, Fk', rk'⟩ := RepT.any tk.rep
      refine ⟨.str (joinP s ss), ⟨rfl, ⟨1, rfl⟩, .str _⟩, fun Q q => ?_⟩
      rw [join_eq, ← PySem.StrLaws.glued_eq_join] at q
      cases rk' <;> simp only [seqP, Option.some.injEq, reduceCtorEq] at hx
      · rename_i h1 h2
        subst hx
        have := strs_reps h2 hs
        subst this
        exact ⟨s, _, ss, rfl, rfl, .inr (.of h1), hz, q⟩
      · rename_i h1 h2
        subst hx
        have := strs_reps h2 hs
        subst this
        exact ⟨s, _, ss, rfl, rfl, .inr (.of h1), hz, q⟩
      · rename_i h1 h2
        subst hx
        have := strs_reps h2 hs
        subst this
        exact ⟨s, _, ss, rfl, rfl, .inl (.inl h1.1), hz, q⟩
      · rename_i h1 h2 h3
        subst hx
        have := strs_reps h2 hs
        subst this
        exact ⟨s, _, ss, rfl, rfl, .inl (.of h1), hz, q⟩
    · cases hm
  | _ :: _ :: _, _, hm => simp [methP] at hm
theorem meth_val {m : Meth} {rs : List TR} {τ : Tp} (hu : X.A.units + 1 < cLine) (h : m = .get ∨ m = .join) (hg : m.gives rs = some τ) : MVal X m (rs.length - 1) := by
  rcases h with rfl | rfl
  · exact val_get hu hg
  · exact val_join hg
end
end OI
set_option maxRecDepth 100000
set_option maxHeartbeats 4000000
/-! OI47: displays of dicts. -/
namespace OI
open PySem PySem.Spec PyProof.Rows L2
section
variable {T : List FnA} {X : Cx} {K : PySem.W.Frag} {c : Lp} {σ σ' σ2 σ0 : St} {S S' S2 S0 S1 : ASt} {M M' : List Nat} {H H' : Hp} {Z : Addr → Prop}
def pairs2 : List V → List (V × V)
  | a :: b :: r => (a, b) :: pairs2 r
  | _ => []
def trs2 (X : Cx) : List Expr → List (TE × TE)
  | a :: b :: r => (WE X a, WE X b) :: trs2 X r
  | _ => []
theorem weave_ok {X : Cx} {pos : Pos} : ∀ {ks : List (Option Expr)} {vs qs : List Expr}, weave ks vs = some qs → PPs X pos ks vs (trs2 X qs) ∧ ks.all (·.isSome) = true ∧ ks.length = vs.length ∧ qs.length = 2 * ks.length ∧
    ∀ {σ : St} {H : Hp} {Q : List (V × V) → Hp → Prop}, WL X qs σ H (fun ws H' => Q (pairs2 ws) H') → tPairs (trs2 X qs) σ H Q
  | [], [], qs, h => by
    simp only [weave, Option.some.injEq] at h
    subst h
    exact ⟨pps_nil, rfl, rfl, rfl, fun h => h⟩
  | [], _ :: _, qs, h => by simp [weave] at h
  | none :: _, _, qs, h => by simp [weave] at h
  | some _ :: _, [], qs, h => by simp [weave] at h
  | some k :: ks, v :: vs, qs, h => by
    simp only [weave, Option.map_eq_some_iff] at h
    obtain ⟨r, h, rfl⟩ := h
    obtain ⟨a1, a2, a3, a4, a5⟩ := weave_ok (X := X) (pos := pos) h
    refine ⟨pps_cons pe_we pe_we a1, by simp [a2], by simp [a3], by simp [a4]; omega, fun {σ H Q} h => ?_⟩
    exact WE.imp h fun w H1 h => WE.imp h fun w2 H2 h => a5 h
theorem Stp.fresh {p : Addr} {u : HO} (st : Stp M S S2) (hp : S.H p = none) : Stp M S (S2.atH (upd S2.H p u)) where
  env := st.env
  fs := st.fs
  keep := fun a o e q => by
    have : a ≠ p := fun h => by subst h; rw [hp] at e; cases e
    show upd S2.H p u a = _
    rw [upd_ne this]
    exact st.keep a o e q
  z := st.z
  znew := st.znew
  fnew := st.fnew
  live := fun a h => upd_live a (st.live a h)
/-- one key more -/
theorem dct_app {kvs : List (Key × V)} {ks : List PV} {k : PV} {d : Nat} {y : V} (w : V) {F : List Addr} (hd : Dct false (.dK kvs) ks (kvs.map (·.2))) (hk : isKey false k = true) (rk : Rep K H Z d k y F) (hn : fndP k ks = none) :
    ∃ κ, y = kV κ ∧ putK kvs κ w = kvs ++ [(κ, w)] ∧ Dct false (.dK (kvs ++ [(κ, w)])) (ks ++ [k]) ((kvs ++ [(κ, w)]).map (·.2)) := by
  obtain ⟨h1, h2⟩ : PKs1 ks (kvs.map (·.1)) ∧ (kvs.map (·.1)).Nodup := by
    generalize hu : HO.dK kvs = u at hd
    generalize hw : kvs.map (·.2) = ws at hd
    cases hd with
    | k h1 h2 => cases hu; exact ⟨h1, h2⟩
  obtain ⟨κ, p, rfl⟩ := pk1_of (by cases k <;> exact hk) rk
  have hR : ∀ a b, PK1 a b → eqP a k = decide (b = κ) := fun _ _ q => pk1_eq q p
  have ea := find_any hR h1
  rw [hn] at ea
  refine ⟨κ, rfl, ?_, ?_⟩
  · unfold putK
    rw [if_neg (by rw [ea]; exact Bool.false_ne_true)]
  · refine .k (by simp only [List.map_append, List.map_cons, List.map_nil]; exact Paired.app h1 (.cons p .nil)) ?_
    simp only [List.map_append, List.map_cons, List.map_nil]
    refine List.nodup_append.mpr ⟨h2, by simp, fun x hx z hz e => ?_⟩
    simp at hz
    subst hz
    subst e
    have : kvs.any (fun kv => decide (kv.1 = x)) = true := by
      obtain ⟨kv, hkv, e⟩ := List.mem_map.mp hx
      exact List.any_eq_true.mpr ⟨kv, hkv, by simpa using e⟩
    rw [ea] at this; cases this
theorem lookP_none {k : PV} {ks vs : List PV} (hl : ks.length = vs.length) (h : lookP k ks vs = none) : fndP k ks = none := by
  rw [lookP_fnd hl] at h
  cases e : fndP k ks with
  | none => rfl
  | some j =>
    rw [e] at h
    have := fndP_lt e
    rw [Option.bind_some, List.getElem?_eq_getElem (by omega)] at h
    cases h
/-- what a display makes -/
theorem disp_ok {m : Nat} : ∀ (n : Nat) (vs : List PV), vs.length ≤ n → ∀ {ws : List V} {L L0 : List Addr} {ks us ks' us' : List PV} {kvs0 : List (Key × V)}, Reps K H Z m vs ws L → dictP false vs ks us = .ok (ks', us') → Dct false (.dK kvs0) ks (kvs0.map (·.2)) → Reps K H Z m us (kvs0.map (·.2)) L0 → (∀ a ∈ L0, a ∉ L) →
    ∃ kvs L', pairs2 ws = kvs.map (fun kv => (kV kv.1, kv.2)) ∧ 2 * kvs.length = vs.length ∧ Dct false (.dK (mergeK kvs0 kvs)) ks' ((mergeK kvs0 kvs).map (·.2)) ∧ Reps K H Z m us' ((mergeK kvs0 kvs).map (·.2)) L' ∧ ∀ a ∈ L', a ∈ L0 ∨ a ∈ L
  | n, [], hn, ws, L, L0, ks, us, ks', us', kvs0, hr, hd, h1, h2, h3 => by
    cases hr
    simp only [dictP, Res.ok.injEq, Prod.mk.injEq] at hd
    obtain ⟨rfl, rfl⟩ := hd
    exact ⟨[], L0, rfl, rfl, h1, h2, fun a ha => .inl ha⟩
  | n, [x], hn, ws, L, L0, ks, us, ks', us', kvs0, hr, hd, h1, h2, h3 => by simp [dictP] at hd
  | 0, _ :: _ :: _, hn, ws, L, L0, ks, us, ks', us', kvs0, hr, hd, h1, h2, h3 => by simp at hn
  | n + 1, k :: v :: r, hn, ws, L, L0, ks, us, ks', us', kvs0, hr, hd, h1, h2, h3 => by
    cases hr with
    | cons rk hr2 dj1 =>
    rename_i wk ws1 Fk G1
    cases hr2 with
    | cons rv hr dj2 =>
    rename_i wv ws Fv Fr
    simp only [dictP] at hd
    obtain ⟨⟨hk, hf⟩, hd⟩ := need_ok.mp hd
    have hl : ks.length = us.length := (h1.lens.trans h2.length.symm)
    obtain ⟨κ, rfl, e1, e2⟩ := dct_app wv h1 hk rk (lookP_none hl hf)
    have one : Reps K H Z m [v] [wv] Fv := by
      have := Reps.cons rv (Reps.nil (K := K) (H := H) (Z := Z)) fun _ _ z => nomatch z
      rw [List.append_nil] at this
      exact this
    have two : Reps K H Z m (us ++ [v]) ((kvs0 ++ [(κ, wv)]).map (·.2)) (L0 ++ Fv) := by
      simp only [List.map_append, List.map_cons, List.map_nil]
      exact Reps.append h2 one fun a ha hb => h3 a ha (List.mem_append_right _ (List.mem_append_left _ hb))
    obtain ⟨kvs, L', g1, g2, g3, g4, g5⟩ := disp_ok n r (by simp at hn; omega) hr hd e2 two fun a ha hb => by
      rcases List.mem_append.mp ha with ha | ha
      · exact h3 a ha (List.mem_append_right _ (List.mem_append_right _ hb))
      · exact dj2 a ha hb
    refine ⟨(κ, wv) :: kvs, L', by simp [pairs2, g1], by simp; omega, ?_, ?_, fun a ha => ?_⟩
    · show Dct false (.dK (mergeK (putK kvs0 κ wv) kvs)) ks' ((mergeK (putK kvs0 κ wv) kvs).map (·.2))
      rw [e1]; exact g3
    · show Reps K H Z m us' ((mergeK (putK kvs0 κ wv) kvs).map (·.2)) L'
      rw [e1]; exact g4
    · rcases g5 a ha with h | h
      · rcases List.mem_append.mp h with h | h
        · exact .inl h
        · exact .inr (List.mem_append_right _ (List.mem_append_left _ h))
      · exact .inr (List.mem_append_right _ (List.mem_append_right _ h))
/-- what was made first stands by -/
theorem fresh_by {p : Addr} (o : Ok K σ S) (hp : S.H p = none) {u : HO} (st : Stp M (S.atH (upd S.H p u)) S2) : S2.H p = some u ∧ (∀ i, p ∉ S2.Fs i) ∧ ¬ S2.Z p := by
  obtain ⟨f1, f2⟩ := o.fresh hp
  have nw : ¬ Wr M (S.atH (upd S.H p u)) p := fun ⟨i, _, h⟩ => f1 i h
  have hl : (S.atH (upd S.H p u)).H p = some u := upd_same
  refine ⟨st.keep p u hl (.inr nw), fun i h => ?_, fun h => ?_⟩
  · rcases st.fnew i p h with h | h | h
    · exact f1 i h
    · rw [hl] at h; cases h
    · exact nw h
  · rcases st.znew p h with h | h | h
    · exact f2 h
    · rw [hl] at h; cases h
    · exact nw h
theorem me_dct {N : List Str} {sc : Scope} {t : Bool} {d : Nat} {es : List E} {q : Expr} (h : meE T N sc (.dct t d es) q = true) : ∃ ks vs pos qs, q = .Dict ks vs pos ∧ weave ks vs = some qs ∧ ks.length ≤ 15 ∧ meEs T N sc es qs = true := by
  simp only [meE] at h
  split at h
  · rename_i ks vs pos
    split at h
    · rename_i qs hq
      simp only [Bool.and_eq_true, decide_eq_true_eq] at h
      exact ⟨ks, vs, pos, qs, rfl, hq, h.1, h.2⟩
    · cases h
  · cases h
theorem weave_nil {ks : List (Option Expr)} {vs qs : List Expr} (h : weave ks vs = some qs) (hq : qs = []) : ks = [] ∧ vs = [] := by
  subst hq
  cases ks with
  | nil => cases vs with
    | nil => exact ⟨rfl, rfl⟩
    | cons _ _ => simp [weave] at h
  | cons k ks => cases k <;> cases vs <;> simp [weave] at h
theorem dictP_exc {t : Bool} {x : PV} : ∀ (n : Nat) {vs ks us : List PV}, vs.length ≤ n → dictP t vs ks us ≠ .exc x
  | _, [], _, _, _, h => by simp [dictP] at h
  | _, [_], _, _, _, h => by simp [dictP] at h
  | 0, _ :: _ :: _, _, _, hn, _ => by simp at hn
  | n + 1, k :: v :: r, _, _, hn, h => by
    simp only [dictP] at h
    obtain ⟨_, h⟩ := need_exc.mp h
    exact dictP_exc n (by simp at hn; omega) h
theorem snd_dct {t : Bool} {d : Nat} {es : List E} (hs : ∀ e ∈ es, SndE T e) : SndE T (.dct t d es) := by
  have ih := snds_iff.mp (snds_of hs)
  refine snd_iff.mpr fun X G ER W k g e he σ S r Γ' ht o => ?_
  obtain ⟨kx, vx, pos, qs, rfl, hw, h15, hes⟩ := me_dct he
  clear he
  simp only [typE] at ht
  cases t1 : typEs T es S.G with
  | none => simp [t1] at ht
  | some p1 =>
    obtain ⟨rs, Γ1⟩ := p1
    simp only [t1] at ht
    split at ht
    · rename_i hc
      cases ht
      simp only [Bool.and_eq_true, decide_eq_true_eq, Bool.or_eq_true, Bool.not_eq_true', List.isEmpty_iff] at hc
      obtain ⟨⟨hd0, hte⟩, hu⟩ := hc
      have tE : tchE (.dct t d es) = tchEs es := by simp [tchE]
      obtain ⟨w1, w2, w3, w4, w5⟩ := weave_ok (X := X) (pos := pos) hw
      by_cases hq : qs = []
      · -- empty
        obtain ⟨rfl, rfl⟩ := weave_nil hw hq
        subst hq
        have : es = [] := List.length_eq_zero_iff.mp (meEs_len hes)
        subst this
        simp only [typEs, Option.some.injEq, Prod.mk.injEq] at t1
        obtain ⟨rfl, rfl⟩ := t1
        refine ⟨fun v env' ev Q hQ => ?_, fun y ev Q hQ => ?_⟩
        · simp only [evalE, evalEs, dictP, Res.bind, need_ok, Res.ok.injEq, Prod.mk.injEq] at ev
          obtain ⟨_, rfl, rfl⟩ := ev
          have got : ∀ (p : Addr) (u : HO), S.H p = none → Dct t u [] [] → Got X.K σ (tchE (.dct t d [])) S S.env S.G (.d d, none) (.dct t [] []) (S.atH (upd S.H p u)) (.ref p) [p] := fun p u hp hdc => by
            obtain ⟨f1, f2⟩ := o.fresh hp
            obtain ⟨m, rfl⟩ : ∃ m, d = m + 1 := ⟨d - 1, by omega⟩
            exact ⟨rfl, rfl, .alloc hp, o.alloc hp, ⟨Rep.dctS (F := []) upd_same hdc .nil (by simp), fun _ i a ha => by simp at ha; subst ha; exact f1 i, fun _ h => (nomatch h), fun a ha => by simp at ha; subst ha; exact f2⟩, fun _ a ha => by simp at ha; subst ha; exact .inl hp⟩
          cases t with
          | false => exact .of pe_dnewK (fun p hp => hQ _ _ _ (got p _ hp (.k (kvs := []) .nil (by simp))))
          | true => exact .of pe_dnewT (fun p hp => hQ _ _ _ (got p _ hp (.t (kvs := []) .nil (by simp))))
        · simp only [evalE, evalEs, dictP, Res.bind, need_exc] at ev
          obtain ⟨_, ev⟩ := ev
          cases ev
      · have hk0 : kx ≠ [] := fun h => by
          subst h
          simp at w4
          exact hq (List.length_eq_zero_iff.mp (by simpa using w4))
        have rule := pe_disp (X := X) (pos := pos) w1 w2 w3 hk0 h15
        have htf : t = false := by
          rcases hte with h | h
          · exact h
          · subst h
            exact absurd (List.length_eq_zero_iff.mp (meEs_len hes).symm) hq
        subst htf
        refine ⟨fun v env' ev Q hQ => ?_, fun y ev Q hQ => ?_⟩
        · simp only [evalE] at ev
          obtain ⟨⟨vs, env1⟩, ev1, ev⟩ := Res.bind_ok.mp ev
          obtain ⟨hz, ev⟩ := need_ok.mp ev
          obtain ⟨⟨ks', us'⟩, hd, ev⟩ := Res.bind_ok.mp ev
          simp only [Res.ok.injEq, Prod.mk.injEq] at ev
          obtain ⟨rfl, rfl⟩ := ev
          refine .of rule fun p hp => ?_
          have s1 := ih X G ER W k g qs hes σ (S.atH (upd S.H p (.dK []))) rs _ t1 (o.alloc hp)
          refine w5 (s1.ok vs _ ev1 _ fun S1 ws Fl g1 => ?_)
          -- what is in hand
          obtain ⟨S2, L, q1, q2, q3, q4, q5, q6, q7⟩ : ∃ (S2 : ASt) (L : List Addr), S2.H = S1.H ∧ S2.env = env1 ∧ S2.G = Γ' ∧ Stp (tchEs es) (S.atH (upd S.H p (.dK []))) S2 ∧ Ok X.K σ S2 ∧ Reps X.K S2.H S2.Z (d - 1) vs ws L ∧
              ∀ a ∈ L, (∀ i, a ∉ S2.Fs i) ∧ ¬ S2.Z a ∧ ((S.atH (upd S.H p (.dK []))).H a = none ∨ Wr (tchEs es) (S.atH (upd S.H p (.dK []))) a) := by
            by_cases hd1 : d - 1 = 0
            · rw [hd1] at hu ⊢
              obtain ⟨S2, e1, e2, e3, st, ok, rp⟩ := g1.froz hu
              exact ⟨S2, [], e1, e2, e3, st, ok, rp, fun _ h => nomatch h⟩
            · exact ⟨S1, Fl.flatten, rfl, g1.env, g1.g, g1.stp, g1.ok, g1.tmps.kept hd1 hu, fun a ha => let ⟨x1, x2, x3, _⟩ := g1.flat hu a ha; ⟨x1, x2, x3⟩⟩
          obtain ⟨b1, b2, b3⟩ := fresh_by o hp q4
          have pL : p ∉ L := fun h => by
            rcases (q7 p h).2.2 with z | ⟨i, _, z⟩
            · have : (S.atH (upd S.H p (.dK []))).H p = some (.dK []) := upd_same
              rw [this] at z; cases z
            · exact (o.fresh hp).1 i z
          obtain ⟨kvs, L', g2, g3, g4, g5, g6⟩ := disp_ok (kvs0 := []) (L0 := []) vs.length vs (Nat.le_refl _) q6 hd (.k (kvs := []) .nil (by simp)) .nil fun _ h => nomatch h
          have pL' : p ∉ L' := fun h => (g6 p h).elim (fun h => nomatch h) pL
          have lv := evalEs_len ev1
          have lq := meEs_len hes
          refine ⟨by rw [← q1]; exact b1, kvs, g2, by omega, ?_⟩
          rw [← q1]
          have k1 : Kp (fun a => a = p) S2.H (upd S2.H p (.dK (mergeK [] kvs))) := kp_one b1 rfl
          have rp : Rep X.K (upd S2.H p (.dK (mergeK [] kvs))) S2.Z (d - 1 + 1) (.dct false ks' us') (.ref p) (p :: L') :=
            .dctS upd_same g4 (Reps.keep k1 (fun a ha ea => pL' (ea ▸ ha)) (fun a z ea => b3 (ea ▸ z)) (fun _ z => z) g5) pL'
          have ed : d - 1 + 1 = d := by omega
          rw [ed] at rp
          refine hQ (S2.atH (upd S2.H p (.dK (mergeK [] kvs)))) (.ref p) (p :: L') ⟨q2, q3, ?_, ?_, ⟨rp, fun _ i a ha => ?_, fun _ h => (nomatch h), fun a ha => ?_⟩, fun _ a ha => ?_⟩
          · rw [tE]
            exact Stp.fresh (Stp.trans (.alloc hp) q4) hp
          · exact q5.atK (F := [p]) (fun a u e q => k1 a u e (q.imp id fun q ea => q (by simp [ea]))) (fun a h => upd_live a h) fun a ha => by simp at ha; subst ha; exact ⟨b2, b3⟩
          · rcases List.mem_cons.mp ha with rfl | ha
            · exact b2 i
            · exact (g6 a ha).elim (fun h => nomatch h) fun h => (q7 a h).1 i
          · rcases List.mem_cons.mp ha with rfl | ha
            · exact b3
            · exact (g6 a ha).elim (fun h => nomatch h) fun h => (q7 a h).2.1
          · rcases List.mem_cons.mp ha with rfl | ha
            · exact .inl hp
            · refine (g6 a ha).elim (fun h => nomatch h) fun h => ?_
              rcases (q7 a h).2.2 with z | ⟨i, hi, z⟩
              · refine .inl ?_
                have : a ≠ p := fun e => pL (e ▸ h)
                have e : (S.atH (upd S.H p (.dK []))).H a = S.H a := upd_ne this
                rw [e] at z; exact z
              · exact .inr ⟨i, tE ▸ hi, z⟩
        · simp only [evalE] at ev
          rcases Res.bind_exc.mp ev with ev | ⟨_, _, ev⟩
          · refine .of rule fun p hp => ?_
            have s1 := ih X G ER W k g qs hes σ (S.atH (upd S.H p (.dK []))) rs _ t1 (o.alloc hp)
            exact w5 (s1.exc y ev _ ((tE ▸ hQ).step (.alloc hp) fun _ h => h))
          · exfalso
            obtain ⟨_, ev⟩ := need_exc.mp ev
            rcases Res.bind_exc.mp ev with ev | ⟨_, _, ev⟩
            · exact dictP_exc _ (Nat.le_refl _) ev
            · cases ev
    · cases ht
end
end OI
set_option maxRecDepth 100000
set_option maxHeartbeats 4000000
/-! OI48: constants of the module. -/
namespace OI
open PySem PySem.Spec PyProof.Rows L2
section
variable {T : List FnA} {X : Cx} {K : PySem.W.Frag} {c : Lp} {σ σ' σ2 σ0 : St} {S S' S2 S0 S1 : ASt} {M M' : List Nat} {H H' : Hp} {Z : Addr → Prop}
theorem snd_gl {x : String} {v : PV} : SndE T (.gl x v) := by
  refine snd_iff.mpr fun X G ER W k g q he σ S r Γ' ht o => ?_
  obtain ⟨pos, rfl, hgl, hc⟩ : ∃ pos, q = .Name (Str.ofString x) pos ∧ glB X.env.scope (Str.ofString x) = true ∧ constB T x v = true := by
    simp only [meE] at he
    split at he
    · simp only [Bool.and_eq_true, decide_eq_true_eq] at he
      obtain ⟨⟨rfl, h1⟩, h2⟩ := he
      exact ⟨_, rfl, h1, h2⟩
    · cases he
  obtain ⟨u, w, hm, rel, dp⟩ := g.gls x v hc
  simp only [typE] at ht
  split at ht
  · rename_i hs
    cases ht
    have hd : (Str.ofString x == ("__debug__" : Str)) = false := by
      simp only [glB, plainName, Bool.and_eq_true, Bool.not_eq_true'] at hgl
      exact hgl.2.1
    refine ⟨fun v' env' ev Q hQ => ?_, fun y ev => by simp [evalE] at ev⟩
    simp only [evalE, Res.ok.injEq, Prod.mk.injEq] at ev
    obtain ⟨rfl, rfl⟩ := ev
    refine .of (pe_glob (glB_gl hgl) hm rel hd) (hQ S w [] (Got.here o ⟨rfl, ?_, ?_⟩))
    · cases v <;> simp only [scaP, Bool.false_eq_true] at hs <;> exact ⟨1, rfl⟩
    · have d := dp S.H
      cases v <;> simp only [scaP, Bool.false_eq_true] at hs <;> simp only [toD] at d <;> cases d <;> constructor
  · cases ht
theorem snd_inK {b : Bool} {e : E} {x : String} {vs : List PV} (h : SndE T e) : SndE T (.inK b e x vs) := by
  have ih := snd_iff.mp h
  refine snd_iff.mpr fun X G ER W k g q he σ S r Γ' ht o => ?_
  obtain ⟨a, npos, pos, rfl, hgl, hc, hma⟩ : ∃ a npos pos, q = .Compare a [if b = true then CmpOp.NotIn else CmpOp.In] [.Name (Str.ofString x) npos] pos ∧ glB X.env.scope (Str.ofString x) = true ∧ constB T x (.tup vs) = true ∧ meE T X.N X.env.scope e a = true := by
    simp only [meE] at he
    split at he
    · simp only [Bool.and_eq_true, decide_eq_true_eq] at he
      obtain ⟨⟨⟨⟨h0, rfl⟩, h1⟩, h2⟩, h3⟩ := he
      exact ⟨_, _, _, by rw [h0], h1, h2, h3⟩
    · cases he
  obtain ⟨u, w, hm, rel, dp⟩ := g.gls x _ hc
  have hd : (Str.ofString x == ("__debug__" : Str)) = false := by
    simp only [glB, plainName, Bool.and_eq_true, Bool.not_eq_true'] at hgl
    exact hgl.2.1
  simp only [typE] at ht
  cases t1 : typE T e S.G with
  | none => simp [t1] at ht
  | some p1 =>
    obtain ⟨r1, Γ1⟩ := p1
    simp only [t1, Option.some.injEq, Prod.mk.injEq] at ht
    obtain ⟨rfl, rfl⟩ := ht
    have s1 := ih X G ER W k g a hma σ S r1 Γ1 t1 o
    have tE : tchE (.inK b e x vs) = tchE e := by simp [tchE]
    have rule := pe_cmpR (X := X) (pos := pos) (op := if b = true then CmpOp.NotIn else CmpOp.In) opAny (pe_we (X := X) (e := a)) (pe_glob (pos := npos) (glB_gl hgl) hm rel hd) (by cases b <;> rfl)
    refine ⟨fun v env' ev Q hQ => ?_, fun y ev Q hQ => ?_⟩
    · simp only [evalE] at ev
      obtain ⟨⟨v1, env1⟩, ev1, ev⟩ := Res.bind_ok.mp ev
      obtain ⟨⟨c1, c2⟩, ev⟩ := need_ok.mp ev
      simp only [Res.ok.injEq, Prod.mk.injEq] at ev
      obtain ⟨rfl, rfl⟩ := ev
      refine .of rule (s1.ok v1 _ ev1 _ fun S1 wa F g1 => ?_)
      have ru : Cmp2 X (compareOp (if b = true then CmpOp.NotIn else CmpOp.In)) S1.H (vs.any (eqP · v1) != b) wa w := by
        obtain ⟨d1, F1, ra⟩ := g1.tmp.rep.any
        have e : shp 61 (.tup vs) = true := by simpa [shp] using c2
        have db := dp S1.H
        rw [toD] at db
        cases b with
        | false =>
          refine ⟨_, op_inT g.un, fun Q q => ⟨_, _, dp_of _ _ c1 ra, db, shaped_of (by decide) c1, (lays_of 60 vs (by simpa using c2)).1, ?_⟩⟩
          rw [any_eq c2 c1]
          have : (vs.any (eqP · v1) != false) = vs.any (eqP · v1) := by cases vs.any (eqP · v1) <;> rfl
          rw [this] at q
          exact q
        | true =>
          refine ⟨_, op_notInT g.un, fun Q q => ⟨_, _, dp_of _ _ c1 ra, db, shaped_of (by decide) c1, (lays_of 60 vs (by simpa using c2)).1, ?_⟩⟩
          rw [any_eq c2 c1]
          have : (vs.any (eqP · v1) != true) = !vs.any (eqP · v1) := by cases vs.any (eqP · v1) <;> rfl
          rw [this] at q
          exact q
      obtain ⟨ru, hop, hru⟩ := ru
      exact ⟨ru, hop, hru Q (hQ S1 _ [] (tE ▸ Got.bl g1.stepd))⟩
    · simp only [evalE] at ev
      rcases Res.bind_exc.mp ev with ev | ⟨_, _, ev⟩
      · exact .of rule (s1.exc y ev _ (tE ▸ hQ))
      · obtain ⟨_, ev⟩ := need_exc.mp ev
        cases ev
end
end OI
set_option maxRecDepth 100000
set_option maxHeartbeats 4000000
/-! OI49: all expressions. -/
namespace OI
open PySem PySem.Spec PyProof.Rows L2
section
variable {T : List FnA} {X : Cx} {K : PySem.W.Frag} {c : Lp} {σ σ' σ2 σ0 : St} {S S' S2 S0 S1 : ASt} {M M' : List Nat} {H H' : Hp} {Z : Addr → Prop}
theorem sndt_inK {b : Bool} {e : E} {x : String} {vs : List PV} (h : SndE T e) : SndT T (.inK b e x vs) := by
  have ih := snd_iff.mp h
  intro X G ER W k g q he σ S r Γ' ht o
  obtain ⟨a, npos, pos, rfl, hgl, hc, hma⟩ : ∃ a npos pos, q = .Compare a [if b = true then CmpOp.NotIn else CmpOp.In] [.Name (Str.ofString x) npos] pos ∧ glB X.env.scope (Str.ofString x) = true ∧ constB T x (.tup vs) = true ∧ meE T X.N X.env.scope e a = true := by
    simp only [meE] at he
    split at he
    · simp only [Bool.and_eq_true, decide_eq_true_eq] at he
      obtain ⟨⟨⟨⟨h0, rfl⟩, h1⟩, h2⟩, h3⟩ := he
      exact ⟨_, _, _, by rw [h0], h1, h2, h3⟩
    · cases he
  obtain ⟨u, w, hm, rel, dp⟩ := g.gls x _ hc
  have hd : (Str.ofString x == ("__debug__" : Str)) = false := by
    simp only [glB, plainName, Bool.and_eq_true, Bool.not_eq_true'] at hgl
    exact hgl.2.1
  simp only [typE] at ht
  cases t1 : typE T e S.G with
  | none => simp [t1] at ht
  | some p1 =>
    obtain ⟨r1, Γ1⟩ := p1
    simp only [t1, Option.some.injEq, Prod.mk.injEq] at ht
    obtain ⟨rfl, rfl⟩ := ht
    have s1 := ih X G ER W k g a hma σ S r1 Γ1 t1 o
    have tE : tchE (.inK b e x vs) = tchE e := by simp [tchE]
    have rule := pt_cmpR (X := X) (pos := pos) (op := if b = true then CmpOp.NotIn else CmpOp.In) opAny (pe_we (X := X) (e := a)) (pe_glob (pos := npos) (glB_gl hgl) hm rel hd) (by cases b <;> rfl)
    refine ⟨fun v env' d ev hdd Q hQ => ?_, fun y ev Q hQ => ?_⟩
    · simp only [evalE] at ev
      obtain ⟨⟨v1, env1⟩, ev1, ev⟩ := Res.bind_ok.mp ev
      obtain ⟨⟨c1, c2⟩, ev⟩ := need_ok.mp ev
      simp only [Res.ok.injEq, Prod.mk.injEq] at ev
      obtain ⟨rfl, rfl⟩ := ev
      have hdd : (vs.any (eqP · v1) != b) = d := by simpa [truth] using hdd
      refine .of rule (s1.ok v1 _ ev1 _ fun S1 wa F g1 => ?_)
      have ru : Cmp2 X (compareOp (if b = true then CmpOp.NotIn else CmpOp.In)) S1.H (vs.any (eqP · v1) != b) wa w := by
        obtain ⟨d1, F1, ra⟩ := g1.tmp.rep.any
        have e : shp 61 (.tup vs) = true := by simpa [shp] using c2
        have db := dp S1.H
        rw [toD] at db
        cases b with
        | false =>
          refine ⟨_, op_inT g.un, fun Q q => ⟨_, _, dp_of _ _ c1 ra, db, shaped_of (by decide) c1, (lays_of 60 vs (by simpa using c2)).1, ?_⟩⟩
          rw [any_eq c2 c1]
          have : (vs.any (eqP · v1) != false) = vs.any (eqP · v1) := by cases vs.any (eqP · v1) <;> rfl
          rw [this] at q
          exact q
        | true =>
          refine ⟨_, op_notInT g.un, fun Q q => ⟨_, _, dp_of _ _ c1 ra, db, shaped_of (by decide) c1, (lays_of 60 vs (by simpa using c2)).1, ?_⟩⟩
          rw [any_eq c2 c1]
          have : (vs.any (eqP · v1) != true) = !vs.any (eqP · v1) := by cases vs.any (eqP · v1) <;> rfl
          rw [this] at q
          exact q
      obtain ⟨ru, hop, hru⟩ := ru
      exact ⟨ru, hop, hru _ ⟨_, rfl, by rw [hdd]; exact hQ S1 (tE ▸ g1.stepd)⟩⟩
    · simp only [evalE] at ev
      rcases Res.bind_exc.mp ev with ev | ⟨_, _, ev⟩
      · exact .of rule (s1.exc y ev _ (tE ▸ hQ))
      · obtain ⟨_, ev⟩ := need_exc.mp ev
        cases ev
/-- what has no type -/
theorem snd_none {e : E} (h : ∀ Γ, typE T e Γ = none) : SndE T e := by
  refine snd_iff.mpr fun X G ER W k g q he σ S r Γ' ht o => ?_
  rw [h] at ht; cases ht
theorem sndt_none {e : E} (h : ∀ Γ, typE T e Γ = none) : SndT T e := by
  intro X G ER W k g q he σ S r Γ' ht o
  rw [h] at ht; cases ht
/-- an expression in every use -/
structure Snd4 (T : List FnA) (ex : E) : Prop where
  e : SndE T ex
  t : SndT T ex
  i : SndI T ex
  s : SetLc T ex
theorem Snd4.of {e : E} (h : SndE T e) (hm : ∀ N sc q, meE T N sc e q = true → plainT q = true ∧ notComp q = true) (hn : ∀ p args, e ≠ .itr p args) : Snd4 T e :=
  ⟨h, sndt_of h fun N sc q m => (hm N sc q m).1, sndi_of h hn, setlc_of fun N sc q m => (hm N sc q m).2⟩
theorem Snd4.of2 {e : E} (h : SndE T e) (ht : SndT T e) (hm : ∀ N sc q, meE T N sc e q = true → notComp q = true) (hn : ∀ p args, e ≠ .itr p args) : Snd4 T e :=
  ⟨h, ht, sndi_of h hn, setlc_of fun N sc q m => hm N sc q m⟩
theorem Snd4.no {e : E} (h : ∀ N sc q, meE T N sc e q = false) : Snd4 T e := by
  refine ⟨fun X G ER W k g q he => ?_, fun X G ER W k g q he => ?_, fun X G ER W k g tg q he => ?_, fun X G ER W k g q x p i spos he => ?_⟩ <;> (rw [h] at he; cases he)
theorem Snd4.un {e : E} (h : ∀ Γ, typE T e Γ = none) (hm : ∀ N sc q, meE T N sc e q = true → plainT q = true ∧ notComp q = true) (hn : ∀ p args, e ≠ .itr p args) : Snd4 T e := .of (snd_none h) hm hn
/-- the text of e is a plain one -/
def MeP (T : List FnA) (e : E) : Prop := ∀ N sc q, meE T N sc e q = true → plainT q = true ∧ notComp q = true
def MeN (T : List FnA) (e : E) : Prop := ∀ N sc q, meE T N sc e q = true → notComp q = true
theorem mep_int {n : Int} : MeP T (.int n) := by intro N sc q h; simp only [meE] at h; repeat' (first | (cases h; done) | exact ⟨rfl, rfl⟩ | exact rfl | split at h)
theorem mep_str {n : String} : MeP T (.str n) := by intro N sc q h; simp only [meE] at h; repeat' (first | (cases h; done) | exact ⟨rfl, rfl⟩ | exact rfl | split at h)
theorem mep_bl {n : Bool} : MeP T (.bl n) := by intro N sc q h; simp only [meE] at h; repeat' (first | (cases h; done) | exact ⟨rfl, rfl⟩ | exact rfl | split at h)
theorem mep_non : MeP T .non := by intro N sc q h; simp only [meE] at h; repeat' (first | (cases h; done) | exact ⟨rfl, rfl⟩ | exact rfl | split at h)
theorem mep_var {n : Nat} : MeP T (.var n) := by intro N sc q h; simp only [meE] at h; repeat' (first | (cases h; done) | exact ⟨rfl, rfl⟩ | exact rfl | split at h)
theorem mep_mv {n : Nat} : MeP T (.mv n) := by intro N sc q h; simp only [meE] at h; repeat' (first | (cases h; done) | exact ⟨rfl, rfl⟩ | exact rfl | split at h)
theorem mep_fz {n : Nat} {e : E} : MeP T (.fz n e) := by
  intro N sc q h; simp only [meE, Bool.and_eq_true] at h; exact ⟨h.1.1, h.1.2⟩
theorem mep_cln {e : E} : MeP T (.cln e) := by
  intro N sc q h; simp only [meE, Bool.and_eq_true] at h; exact ⟨h.1.1, h.1.2⟩
theorem mep_gl {x : String} {v : PV} : MeP T (.gl x v) := by intro N sc q h; simp only [meE] at h; repeat' (first | (cases h; done) | exact ⟨rfl, rfl⟩ | exact rfl | split at h)
theorem mep_pth {p : Pr} : MeP T (.pth p) := by intro N sc q h; simp only [meE] at h; repeat' (first | (cases h; done) | exact ⟨rfl, rfl⟩ | exact rfl | split at h)
theorem mep_tup {d : Nat} {es : List E} : MeP T (.tup d es) := by intro N sc q h; simp only [meE] at h; repeat' (first | (cases h; done) | exact ⟨rfl, rfl⟩ | exact rfl | split at h)
theorem mep_lst {d : Nat} {es : List E} : MeP T (.lst d es) := by intro N sc q h; simp only [meE] at h; repeat' (first | (cases h; done) | exact ⟨rfl, rfl⟩ | exact rfl | split at h)
theorem mep_dct {t : Bool} {d : Nat} {es : List E} : MeP T (.dct t d es) := by intro N sc q h; simp only [meE] at h; repeat' (first | (cases h; done) | exact ⟨rfl, rfl⟩ | exact rfl | split at h)
theorem mep_bin {d : Nat} {op : Operator} {es : List E} : MeP T (.bin d op es) := by intro N sc q h; simp only [meE] at h; repeat' (first | (cases h; done) | exact ⟨rfl, rfl⟩ | exact rfl | split at h)
theorem mep_neg {e : E} : MeP T (.neg e) := by intro N sc q h; simp only [meE] at h; repeat' (first | (cases h; done) | exact ⟨rfl, rfl⟩ | exact rfl | split at h)
theorem men_not {e : E} : MeN T (.not e) := by intro N sc q h; simp only [meE] at h; repeat' (first | (cases h; done) | exact ⟨rfl, rfl⟩ | exact rfl | split at h)
theorem men_and {a b : E} : MeN T (.and a b) := by intro N sc q h; simp only [meE] at h; repeat' (first | (cases h; done) | exact ⟨rfl, rfl⟩ | exact rfl | split at h)
theorem men_or {a b : E} : MeN T (.or a b) := by intro N sc q h; simp only [meE] at h; repeat' (first | (cases h; done) | exact ⟨rfl, rfl⟩ | exact rfl | split at h)
theorem men_ite {a b c : E} : MeN T (.ite a b c) := by intro N sc q h; simp only [meE] at h; repeat' (first | (cases h; done) | exact ⟨rfl, rfl⟩ | exact rfl | split at h)
theorem men_cmp {op : CmpOp} {es : List E} : MeN T (.cmp op es) := by intro N sc q h; simp only [meE] at h; repeat' (first | (cases h; done) | exact ⟨rfl, rfl⟩ | exact rfl | split at h)
theorem men_inK {b : Bool} {e : E} {x : String} {vs : List PV} : MeN T (.inK b e x vs) := by intro N sc q h; simp only [meE] at h; repeat' (first | (cases h; done) | exact ⟨rfl, rfl⟩ | exact rfl | split at h)
theorem men_chn {o1 o2 : CmpOp} {a b c : E} : MeN T (.chn o1 o2 a b c) := by intro N sc q h; simp only [meE] at h; repeat' (first | (cases h; done) | exact ⟨rfl, rfl⟩ | exact rfl | split at h)
theorem mep_item {es : List E} : MeP T (.item es) := by intro N sc q h; simp only [meE] at h; repeat' (first | (cases h; done) | exact ⟨rfl, rfl⟩ | exact rfl | split at h)
theorem mep_slc {d : Nat} {a : E} {l h : Option E} : MeP T (.slc d a l h) := by intro N sc q h; simp only [meE] at h; repeat' (first | (cases h; done) | exact ⟨rfl, rfl⟩ | exact rfl | split at h)
theorem mep_rev {d : Nat} {a : E} : MeP T (.rev d a) := by intro N sc q h; simp only [meE] at h; repeat' (first | (cases h; done) | exact ⟨rfl, rfl⟩ | exact rfl | split at h)
theorem mep_call {f : Nat} {es : List E} {ix : List Nat} {b : Option Pr} : MeP T (.call f es ix b) := by intro N sc q h; simp only [meE] at h; repeat' (first | (cases h; done) | exact ⟨rfl, rfl⟩ | exact rfl | split at h)
theorem mep_prim {p : Prim} {d : Nat} {es : List E} : MeP T (.prim p d es) := by intro N sc q h; simp only [meE] at h; repeat' (first | (cases h; done) | exact ⟨rfl, rfl⟩ | exact rfl | split at h)
theorem mep_itr {p : Prim} {es : List E} : MeP T (.itr p es) := by intro N sc q h; simp only [meE] at h; repeat' (first | (cases h; done) | exact ⟨rfl, rfl⟩ | exact rfl | split at h)
theorem mep_lrg {t : Bool} {es : List E} : MeP T (.lrg t es) := by intro N sc q h; simp only [meE] at h; repeat' (first | (cases h; done) | exact ⟨rfl, rfl⟩ | exact rfl | split at h)
theorem mep_meth {m : Meth} {es : List E} : MeP T (.meth m es) := by intro N sc q h; simp only [meE] at h; repeat' (first | (cases h; done) | exact ⟨rfl, rfl⟩ | exact rfl | split at h)
theorem mep_mut {m : Mut} {p : Pr} {ks es : List E} : MeP T (.mut m p ks es) := by intro N sc q h; simp only [meE] at h; repeat' (first | (cases h; done) | exact ⟨rfl, rfl⟩ | exact rfl | split at h)
theorem mep_isi {e : E} {ts : List Ty} : MeP T (.isi e ts) := by intro N sc q h; simp only [meE] at h; repeat' (first | (cases h; done) | exact ⟨rfl, rfl⟩ | exact rfl | split at h)
theorem pl_lc {d : Nat} {elt : E} {t : Tg} {it : E} {cs : List E} : ∀ N sc q, meE T N sc (.lc d elt t it cs) q = true → plainT q = true := by
  intro N sc q h
  simp only [meE] at h
  split at h
  · rfl
  · cases h
theorem hu_of {X : Cx} {G : Ctx} {ER : ERel} {W : WX} {k : Nat} (g : Good X T G ER W k) : X.A.units + 1 < cLine := by
  have := g.un
  omega
mutual
theorem sE : ∀ e : E, Snd4 T e
  | .int n => .of snd_int mep_int (fun _ _ h => nomatch h)
  | .str s => .of snd_str mep_str (fun _ _ h => nomatch h)
  | .bl b => .of snd_bl mep_bl (fun _ _ h => nomatch h)
  | .non => .of snd_non mep_non (fun _ _ h => nomatch h)
  | .var i => .of snd_var mep_var (fun _ _ h => nomatch h)
  | .mv i => .of snd_mv mep_mv (fun _ _ h => nomatch h)
  | .fz i e => .of (snd_fz (sE e).e) mep_fz (fun _ _ h => nomatch h)
  | .cln e => .of (snd_cln (sE e).e) mep_cln (fun _ _ h => nomatch h)
  | .gl x v => .of snd_gl mep_gl (fun _ _ h => nomatch h)
  | .tup d es => .of (snd_tup fun e h => (sEs es e h).e) mep_tup (fun _ _ h => nomatch h)
  | .lst d es => .of (snd_lst fun e h => (sEs es e h).e) mep_lst (fun _ _ h => nomatch h)
  | .dct t d es => .of (snd_dct fun e h => (sEs es e h).e) mep_dct (fun _ _ h => nomatch h)
  | .bin d op es => .of (snd_bin fun e h => (sEs es e h).e) mep_bin (fun _ _ h => nomatch h)
  | .neg a => .of (snd_neg (sE a).e) mep_neg (fun _ _ h => nomatch h)
  | .not a => .of2 (snd_not (sE a).e) (sndt_not (sE a).t) men_not (fun _ _ h => nomatch h)
  | .and a b => .of2 (snd_and (sE a).e (sE b).e) (sndt_and (sE a).t (sE b).t) men_and (fun _ _ h => nomatch h)
  | .or a b => .of2 (snd_or (sE a).e (sE b).e) (sndt_or (sE a).t (sE b).t) men_or (fun _ _ h => nomatch h)
  | .ite c a b => .of2 (snd_ite (sE c).t (sE a).e (sE b).e) (sndt_ite (sE c).t (sE a).t (sE b).t) men_ite (fun _ _ h => nomatch h)
  | .cmp op es => .of2 (snd_cmp fun e h => (sEs es e h).e) (sndt_cmp fun e h => (sEs es e h).e) men_cmp (fun _ _ h => nomatch h)
  | .inK b e x vs => .of2 (snd_inK (sE e).e) (sndt_inK (sE e).e) men_inK (fun _ _ h => nomatch h)
  | .chn o1 o2 a b c => .of2 (snd_chn (sE a).e (sE b).e (sE c).e) (sndt_chn (sE a).e (sE b).e (sE c).e) men_chn (fun _ _ h => nomatch h)
  | .item es => .of (snd_item fun e h => (sEs es e h).e) mep_item (fun _ _ h => nomatch h)
  | .slc d a lo hi => .of (snd_slc (sE a).e (sO lo) (sO hi)) mep_slc (fun _ _ h => nomatch h)
  | .rev d a => .of (snd_rev (sE a).e) mep_rev (fun _ _ h => nomatch h)
  | .call f args ix back => .of (snd_call fun e h => (sEs args e h).e) mep_call (fun _ _ h => nomatch h)
  | .pth p => .un (fun Γ => by simp [typE]) mep_pth (fun _ _ h => nomatch h)
  | .prim p d args => .of (snd_prim fun e h => (sEs args e h).e) mep_prim (fun _ _ h => nomatch h)
  | .itr p args => ⟨snd_none fun Γ => by simp [typE], sndt_none fun Γ => by simp [typE], sndi_itr fun e h => (sEs args e h).e, setlc_of fun N sc q h => (mep_itr N sc q h).2⟩
  | .lrg t args => .un (fun Γ => by simp [typE]) mep_lrg (fun _ _ h => nomatch h)
  | .meth m args => .of (snd_meth (fun e h => (sEs args e h).e) fun g _ _ hg => meth_val (hu_of g) (by cases m <;> first | exact .inl rfl | exact .inr rfl | (exact nomatch hg)) hg) mep_meth (fun _ _ h => nomatch h)
  | .mut m p ks args => .of (snd_mut (fun e h => (sEs ks e h).e) fun e h => (sEs args e h).e) mep_mut (fun _ _ h => nomatch h)
  | .lc d elt t it cs =>
    have h1 := (sE it).i
    have h2 : ∀ c ∈ cs, SndT T c := fun c h => (sEs cs c h).t
    have h3 := (sE elt).e
    ⟨snd_lc h1 h2 h3, sndt_of (snd_lc h1 h2 h3) pl_lc, sndi_of (snd_lc h1 h2 h3) (fun _ _ h => nomatch h), setlc_lc h1 h2 h3⟩
  | .lc2 d elt t it t2 it2 cs => .no fun N sc q => by simp [meE]
  | .dc d k v t it cs => .no fun N sc q => by simp [meE]
  | .isi e ts => .of (snd_isi (sE e).e) mep_isi (fun _ _ h => nomatch h)
  | .fld e c f => .no fun N sc q => by simp [meE]
theorem sEs : ∀ es : List E, ∀ e ∈ es, Snd4 T e
  | [], _, h => nomatch h
  | e :: es, x, h => by
    rcases List.mem_cons.mp h with h | h
    · rw [h]; exact sE e
    · exact sEs es x h
theorem sO : ∀ o : Option E, ∀ e, o = some e → SndE T e
  | none, _, h => nomatch h
  | some e, x, h => by
    cases h
    exact (sE e).e
end
mutual
theorem sS : ∀ s : OI.S, SndS T s
  | .expr e => snd_sexpr (sE e).e
  | .asg t e => snd_asg (sE e).e (sE e).s
  | .pass => snd_pass
  | .brk => snd_brk
  | .cnt => snd_cnt
  | .ret e => snd_ret (sE e).e
  | .retN => snd_retN
  | .als y x ks => snd_als
  | .set p ks e => snd_set (fun k h => (sEs ks k h).e) (sE e).e
  | .aug i op e => snd_aug (sE e).e
  | .augI p ks op e => fun X G ER W k g s he => by simp [meS] at he
  | .del p ks => fun X G ER W k g s he => by simp [meS] at he
  | .par is es => snd_par fun e h => (sEs es e h).e
  | .ite ws c a b => snd_site (sE c).t (sSs a) (sSs b)
  | .whl ws c b => snd_whl (sE c).t (sSs b)
  | .for_ ws t it b => snd_for (sE it).i (sSs b)
  | .raise c args => fun X G ER W k g s he => by simp [meS] at he
  | .try_ ws b hs => fun X G ER W k g s he => by simp [meS] at he
  | .hnd cls nm h => fun X G ER W k g s he => by simp [meS] at he
theorem sSs : ∀ ss : List OI.S, SndSs T ss
  | [] => snds_nil
  | s :: ss => snds_cons (sS s) (sSs ss)
end
end
end OI
set_option maxRecDepth 100000
set_option maxHeartbeats 4000000
/-! OI50: defs keep their promises. -/
namespace OI
open PySem PySem.Spec PyProof.Rows L2
section
variable {T : List FnA} {X : Cx} {K : PySem.W.Frag} {c : Lp} {σ σ' σ2 σ0 : St} {S S' S2 S0 S1 : ASt} {M M' : List Nat} {H H' : Hp} {Z Z' : Addr → Prop}
/-- what holds nothing to be changed below d levels -/
theorem rep_cleanB : ∀ (d : Nat) {n : Nat} {v : PV} {w : V} {F : List Addr}, cleanB d v = true → d ≤ n → Rep K H Z n v w F → ∃ F', (∀ a ∈ F', a ∈ F) ∧ Rep K H Z' d v w F'
  | 0, n, v, w, F, c, _, h => ⟨[], fun _ h => (nomatch h), (rep_clean 60 (by simpa [cleanB] using c) h).2 _ _⟩
  | d + 1, n, v, w, F, c, hn, h => by
    have key : ∀ {m : Nat} {xs : List PV} {ws : List V} {F : List Addr}, (∀ x ∈ xs, cleanB d x = true) → d ≤ m → Reps K H Z m xs ws F → ∃ F', (∀ a ∈ F', a ∈ F) ∧ Reps K H Z' d xs ws F' := by
      intro m xs
      induction xs with
      | nil => intro ws F _ _ h; cases h; exact ⟨[], fun _ h => h, .nil⟩
      | cons x xs ih =>
        intro ws F hc hm h
        cases h with
        | cons h1 h2 h3 =>
          obtain ⟨F1, s1, r1⟩ := rep_cleanB d (hc x List.mem_cons_self) hm h1
          obtain ⟨F2, s2, r2⟩ := ih (fun y hy => hc y (List.mem_cons_of_mem _ hy)) hm h2
          refine ⟨F1 ++ F2, fun a ha => ?_, .cons r1 r2 fun a ha hb => h3 a (s1 a ha) (s2 a hb)⟩
          rcases List.mem_append.mp ha with ha | ha
          · exact List.mem_append_left _ (s1 a ha)
          · exact List.mem_append_right _ (s2 a ha)
    cases h with
    | non => exact ⟨[], fun _ h => (nomatch h), .non⟩
    | bl b => exact ⟨[], fun _ h => (nomatch h), .bl b⟩
    | int i => exact ⟨[], fun _ h => (nomatch h), .int i⟩
    | str x => exact ⟨[], fun _ h => (nomatch h), .str x⟩
    | tup0 h1 h2 => omega
    | lst0 h1 h2 => omega
    | dct0 h1 h2 h3 h4 => omega
    | tupS h1 h2 =>
      obtain ⟨F', s, r⟩ := key (by simpa [cleanB] using c) (by omega) h2
      exact ⟨F', s, .tupS h1 r⟩
    | lstS h1 h2 h3 =>
      obtain ⟨F', s, r⟩ := key (by simpa [cleanB] using c) (by omega) h2
      exact ⟨_ :: F', fun a ha => (List.mem_cons.mp ha).elim (fun e => e ▸ List.mem_cons_self) fun h => List.mem_cons_of_mem _ (s a h), .lstS h1 r fun h => h3 (s _ h)⟩
    | dctS h1 h2 h3 h4 =>
      obtain ⟨F', s, r⟩ := key (by simpa [cleanB] using c) (by omega) h3
      exact ⟨_ :: F', fun a ha => (List.mem_cons.mp ha).elim (fun e => e ▸ List.mem_cons_self) fun h => List.mem_cons_of_mem _ (s a h), .dctS h1 h2 r fun h => h4 (s _ h)⟩
/-- what is given back, as the caller takes it -/
theorem ret_conv {c : Lp} {r : TR} {v : PV} {w : V} {F : List Addr} {S : ASt} {Z' : Addr → Prop} (hr : retOk c r = true) (hc : cleanB c.dr v = true) (t : Tmp K S r.1 none v w F) : ∃ F', (∀ a ∈ F', a ∈ F) ∧ RepT K S.H Z' (retT c.dr) v w F' := by
  simp only [retOk, Bool.and_eq_true] at hr
  have main : ∃ F', (∀ a ∈ F', a ∈ F) ∧ Rep K S.H Z' c.dr v w F' := by
    cases e : r.1 with
    | cl =>
      have tr := t.rep
      rw [e] at tr
      exact ⟨[], fun _ h => (nomatch h), tr.cl0.2 _ _⟩
    | d n =>
      have tr := t.rep
      rw [e] at tr hr
      exact rep_cleanB c.dr hc (by simpa using hr.2) tr
  obtain ⟨F', s, r'⟩ := main
  unfold retT
  split
  · rename_i hd
    rw [hd] at hc r'
    have := Rep.zeroF r'
    subst this
    exact ⟨[], fun _ h => (nomatch h), ⟨rfl, ⟨60, by simpa [cleanB] using hc⟩, r'⟩⟩
  · exact ⟨F', s, r'⟩
/-- the types at a def's start -/
def FnA.G0 (d : FnA) : List Gt := (List.range d.ns.length).map fun j => if j < d.np then .t (.d (d.pd j)) else .t .cl
def FnA.lp (d : FnA) : Lp := { io := d.io, dio := d.dio, dr := d.dr }
/-- a def's text and types -/
def fnB (T : List FnA) (d : FnA) (sc : Scope) (body : List Stmt) : Bool :=
  decide (d.np ≤ d.ns.length) && (match d.io with | some j => decide (j < d.np) | none => true) && meSs T (d.ns.map Str.ofString) sc d.body body &&
  (match typSs T d.lp d.body d.G0 with
  | some none => true
  | some (some Γ) => ioOk d.lp Γ
  | none => false)
theorem G0_at {d : FnA} {i : Nat} {τ : Tp} (h : d.G0[i]? = some (.t τ)) : (i < d.np ∧ τ = .d (d.pd i)) ∨ (d.np ≤ i ∧ τ = .cl) := by
  unfold FnA.G0 at h
  rw [List.getElem?_map] at h
  obtain ⟨j, hj, h⟩ := Option.map_eq_some_iff.mp h
  have hj2 := List.getElem?_eq_some_iff.mp hj
  obtain ⟨hlt, hj3⟩ := hj2
  rw [List.getElem_range] at hj3
  subst hj3
  split at h
  · cases h; exact .inl ⟨by assumption, rfl⟩
  · cases h; exact .inr ⟨by omega, rfl⟩
theorem G0_al {d : FnA} {i x : Nat} {ks : List Kc} : d.G0[i]? ≠ some (.al x ks) := by
  intro h
  unfold FnA.G0 at h
  rw [List.getElem?_map] at h
  obtain ⟨j, hj, h⟩ := Option.map_eq_some_iff.mp h
  split at h <;> cases h
theorem start_env {d : FnA} {pvs : List PV} {i : Nat} {v : PV} (h : (d.start pvs)[i]? = some (some v)) : pvs[i]? = some v := by
  unfold FnA.start at h
  by_cases hi : i < pvs.length
  · rw [List.getElem?_append_left (by simpa using hi)] at h
    simpa using h
  · rw [List.getElem?_append_right (by simpa using hi)] at h
    rw [List.getElem?_replicate] at h
    split at h <;> cases h
theorem start_sig {N : List Str} {vs : List V} {i : Nat} {w : V} (h : vs[i]? = some w) : (L2.start N vs)[i]? = some (some w) := by
  unfold L2.start
  have hi := (List.getElem?_eq_some_iff.mp h).1
  rw [List.getElem?_append_left (by simpa using hi)]
  simp [h]
/-- at a def's start -/
theorem start_ok {d : FnA} {N : List Str} {pvs : List PV} {vs : List V} {F : List Addr} (hN : N.length = d.ns.length) (hnp : d.np ≤ d.ns.length) (hio : ∀ j, d.io = some j → j < d.np) (l1 : vs.length = d.np) (l2 : pvs.length = d.np)
    (hr : ∀ (j : Nat) (v : PV) (w : V), pvs[j]? = some v → vs[j]? = some w → Rep K H Z (d.pd j) v w (if d.io = some j then F else [])) (hF : ∀ a ∈ F, ¬ Z a) (hi : d.io = none → F = []) (hz : ∀ a, Z a → H a ≠ none) :
    Ok K (L2.start N vs) { env := d.start pvs, G := d.G0, Fs := fun j => if d.io = some j then F else [], Z := Z, H := H } := by
  have atv : ∀ {i : Nat} {v : PV}, pvs[i]? = some v → ∃ w, vs[i]? = some w := fun {i v} h => by
    have := (List.getElem?_eq_some_iff.mp h).1
    exact ⟨vs[i]'(by omega), List.getElem?_eq_getElem (by omega)⟩
  refine ⟨?_, fun i τ v h1 h2 => ?_, fun i h => ?_, fun y x ks h => absurd h G0_al, fun i j hij a ha hb => ?_, fun i a ha => ?_, fun i a ha => ?_, hz⟩
  · show (d.start pvs).length = _
    simp [FnA.start, L2.start, l1, l2, hN]
  · have h2 := start_env h2
    obtain ⟨w, hw⟩ := atv h2
    have hlt := (List.getElem?_eq_some_iff.mp h2).1
    rcases G0_at h1 with ⟨g1, rfl⟩ | ⟨g1, rfl⟩
    · exact ⟨w, start_sig hw, hr i v w h2 hw⟩
    · omega
  · show (if d.io = some i then F else []) = []
    by_cases e : d.io = some i
    · exfalso
      have hj := hio i e
      rcases h with h | h
      · refine h (.d (d.pd i)) ?_
        show d.G0[i]? = _
        unfold FnA.G0
        rw [List.getElem?_map, List.getElem?_range (by omega)]
        simp [hj]
      · refine h (pvs[i]'(by omega)) ?_
        show (d.start pvs)[i]? = _
        unfold FnA.start
        rw [List.getElem?_append_left (by simpa using (by omega : i < pvs.length))]
        simp [List.getElem?_eq_getElem (show i < pvs.length by omega)]
    · rw [if_neg e]
  · have ha : a ∈ (if d.io = some i then F else []) := ha
    have hb : a ∈ (if d.io = some j then F else []) := hb
    split at ha
    · rename_i e1
      split at hb
      · rename_i e2
        rw [e1] at e2
        exact hij (Option.some.inj e2)
      · cases hb
    · cases ha
  · have ha : a ∈ (if d.io = some i then F else []) := ha
    split at ha
    · exact hF a ha
    · cases ha
  · have ha : a ∈ (if d.io = some i then F else []) := ha
    split at ha
    · rename_i e1
      have hj := hio i e1
      have hv : pvs[i]? = some (pvs[i]'(by omega)) := List.getElem?_eq_getElem (by omega)
      obtain ⟨w, hw⟩ := atv hv
      have r := hr i _ w hv hw
      rw [if_pos e1] at r
      exact Rep.trk r a ha
    · cases ha
/-- what is promised of a def's end -/
def Prom (K : PySem.W.Frag) (ER : ERel) (d : FnA) (vs : List V) (H : Hp) (Q : VK) (E : XK) (F : List Addr) : Res (PV × Option PV) → Prop
  | .ok p => ∀ (w : V) (H' : Hp) (F' O : List Addr), Kp (fun a => a ∈ F) H H' → (∀ a, H a ≠ none → H' a ≠ none) → RepT K H' (fun _ => False) (retT d.dr) p.1 w F' → (∀ a ∈ F', a ∈ F ∨ H a = none) →
      (∀ j u wj, d.io = some j → p.2 = some u → vs[j]? = some wj → Rep K H' (fun _ => False) d.dio u wj O ∧ (∀ a ∈ O, a ∈ F ∨ H a = none) ∧ ∀ a ∈ O, a ∉ F') → Q w H'
  | .exc x => ∀ cls e H', ER x cls e H' → Kp (fun a => a ∈ F) H H' → (∀ a, H a ≠ none → H' a ≠ none) → E cls e H'
  | .stuck => False
theorem spec_prom {ER : ERel} {run : List PV → Res (PV × Option PV)} {d : FnA} {vs : List V} {Q : VK} {E : XK} (h : SpecOf K ER run d vs H Q E) : ∃ (pvs : List PV) (Z : Addr → Prop) (F : List Addr),
    vs.length = d.np ∧ pvs.length = d.np ∧ (∀ (j : Nat) (v : PV) (w : V), pvs[j]? = some v → vs[j]? = some w → Rep K H Z (d.pd j) v w (if d.io = some j then F else [])) ∧ (∀ a ∈ F, ¬ Z a) ∧ (d.io = none → F = []) ∧ (∀ a, Z a → H a ≠ none) ∧ Prom K ER d vs H Q E F (run pvs) := by
  obtain ⟨pvs, Z, F, a1, a2, a3, a4, a5, a6, a7⟩ := h
  refine ⟨pvs, Z, F, a1, a2, a3, a4, a5, a6, ?_⟩
  cases e : run pvs with
  | ok p => obtain ⟨v, o⟩ := p; rw [e] at a7; exact a7
  | exc x => rw [e] at a7; exact a7
  | stuck => rw [e] at a7; exact a7
theorem outOf_exc {d : FnA} {env : OI.Env} {x : PV} : outOf d env ≠ .exc x := by
  intro ho
  unfold outOf at ho
  split at ho
  · cases ho
  · rcases Res.bind_exc.mp ho with ho | ⟨_, _, ho⟩
    · exact getV_exc ho
    · obtain ⟨_, ho⟩ := need_exc.mp ho
      cases ho
/-- a def's body does what is promised -/
theorem body_ok {G : Ctx} {ER : ERel} {E : XK} {k : Nat} {d : FnA} {body : List Stmt} (g : GoodS X T G ER (fun cls e _ H => E cls e H) k) (hN : X.N = d.ns.map Str.ofString) (hb : fnB T d X.env.scope body = true) {vs : List V} {Q : VK}
    (sp : SpecOf X.K ER (runFn G d) d vs H Q E) : WSs X body { nx := fun _ H' => Q .non H', rt := Q } (L2.start X.N vs) H := by
  obtain ⟨pvs, Z, F, l1, l2, hr, hF, hi, hz, run⟩ := spec_prom sp
  simp only [fnB, Bool.and_eq_true, decide_eq_true_eq] at hb
  obtain ⟨⟨⟨hnp, hio⟩, hme⟩, hty⟩ := hb
  have hio : ∀ j, d.io = some j → j < d.np := fun j e => by rw [e] at hio; simpa using hio
  have o := start_ok (K := X.K) (N := X.N) (by rw [hN]; simp) hnp hio l1 l2 hr hF hi hz
  rw [runFn_eq l2] at run
  cases ht : typSs T d.lp d.body d.G0 with
  | none => rw [ht] at hty; cases hty
  | some tr =>
    rw [ht] at hty
    have s := sSs d.body X G ER _ k g body (by rw [hN]; exact hme) d.lp (L2.start X.N vs) _ tr ht o
    -- a write is a write to what is lent
    have wr : ∀ {a : Addr}, Wr (tchSs d.body) { env := d.start pvs, G := d.G0, Fs := fun j => if d.io = some j then F else [], Z := Z, H := H } a → a ∈ F := fun {a} ⟨i, _, h⟩ => by
      have h : a ∈ (if d.io = some i then F else []) := h
      split at h
      · exact h
      · cases h
    have kpF : ∀ {H' : Hp}, Kp (Wr (tchSs d.body) { env := d.start pvs, G := d.G0, Fs := fun j => if d.io = some j then F else [], Z := Z, H := H }) H H' → Kp (fun a => a ∈ F) H H' := fun kp a o e q => kp a o e (q.imp id fun n h => n (wr h))
    -- what is given back of the parameter
    have out : ∀ {env' : OI.Env} {Γ' : List Gt} {σ' : St} {S' : ASt} {op : Option PV} {F' : List Addr}, outOf d env' = .ok op → ioOk d.lp Γ' = true → SGot X.K d.lp (tchSs d.body) (L2.start X.N vs) { env := d.start pvs, G := d.G0, Fs := fun j => if d.io = some j then F else [], Z := Z, H := H } env' Γ' σ' S' → (∀ i, ∀ a ∈ F', a ∉ S'.Fs i) →
        ∃ O : List Addr, ∀ j u wj, d.io = some j → op = some u → vs[j]? = some wj → Rep X.K S'.H (fun _ => False) d.dio u wj O ∧ (∀ a ∈ O, a ∈ F ∨ H a = none) ∧ ∀ a ∈ O, a ∉ F' := by
      intro env' Γ' σ' S' op F' ho hok sg hF'
      unfold outOf at ho
      cases e : d.io with
      | none => exact ⟨[], fun j u wj h => by cases h⟩
      | some j =>
        rw [e] at ho
        obtain ⟨u, hu, ho⟩ := Res.bind_ok.mp ho
        obtain ⟨hc, ho⟩ := need_ok.mp ho
        cases ho
        have hg : gat Γ' j = .t (.d d.dio) := by
          unfold ioOk at hok
          have : d.lp.io = some j := e
          rw [this] at hok
          exact of_decide_eq_true hok
        obtain ⟨w, hw, rp⟩ := sg.ok.slot j _ u (by rw [sg.g]; exact gat_some hg) (by rw [sg.env]; exact getV_ok.mp hu)
        obtain ⟨O, sO, rO⟩ := rep_cleanB (Z' := fun _ => False) d.dio hc (Nat.le_refl _) rp
        refine ⟨O, fun j' u' wj hj hu' hwj => ?_⟩
        cases hj
        cases hu'
        have hw2 := sg.fix j e
        rw [hw, start_sig hwj] at hw2
        cases hw2
        refine ⟨rO, fun a ha => ?_, fun a ha hb => hF' j a hb (sO a ha)⟩
        rcases sg.stp.fnew j a (sO a ha) with z | z | z
        · have z : a ∈ (if d.io = some j then F else []) := z
          rw [if_pos e] at z
          exact .inl z
        · exact .inr z
        · exact .inl (wr z)
    cases he : evalSs G d.body (d.start pvs) with
    | stuck => rw [he] at run; exact run.elim
    | exc x =>
      rw [he] at run
      refine s.exc x he _ fun σ' cls e H' er kp lv _ _ => ?_
      exact run cls e H' er (kpF kp) lv
    | ok f =>
      rw [he] at run
      refine s.ok f he _ ?_
      cases f with
      | brk env' => exact run.elim
      | cnt env' => exact run.elim
      | next env' =>
        intro Γ' σ' S' htr sg
        subst htr
        have run : Prom X.K ER d vs H Q E F ((outOf d env').bind fun o => Res.ok (PV.non, o)) := run
        cases ho : outOf d env' with
        | stuck => rw [ho] at run; exact run.elim
        | exc x => exact absurd ho outOf_exc
        | ok op =>
          rw [ho] at run
          obtain ⟨O, hO⟩ := out (F' := []) ho hty sg fun _ _ h => nomatch h
          refine run .non S'.H [] O (kpF sg.stp.keep) sg.stp.live ?_ (fun _ h => nomatch h) hO
          unfold retT
          split
          · exact ⟨rfl, ⟨1, rfl⟩, .non⟩
          · exact .non
      | ret v env' =>
        intro r Γ' σ' S' w F0 hret hok sg tm new
        have run : Prom X.K ER d vs H Q E F ((outOf d env').bind fun o => need (cleanB d.dr v = true) (Res.ok (v, o))) := run
        cases ho : outOf d env' with
        | stuck => rw [ho] at run; exact run.elim
        | exc x => exact absurd ho outOf_exc
        | ok op =>
          rw [ho] at run
          by_cases hc : cleanB d.dr v = true
          · have e2 : ((Res.ok op).bind fun o => need (cleanB d.dr v = true) (Res.ok (v, o))) = Res.ok (v, op) := by
              show need (cleanB d.dr v = true) _ = _
              unfold need
              rw [if_pos hc]
            rw [e2] at run
            obtain ⟨F', sF, rv⟩ := ret_conv (c := d.lp) (Z' := fun _ => False) hret hc tm
            obtain ⟨O, hO⟩ := out (F' := F') ho hok sg fun i a ha => tm.own rfl i a (sF a ha)
            exact run w S'.H F' O (kpF sg.stp.keep) sg.stp.live rv (fun a ha => (new a (sF a ha)).elim .inr fun h => .inl (wr h)) hO
          · have e2 : ((Res.ok op).bind fun o => need (cleanB d.dr v = true) (Res.ok (v, o))) = Res.stuck := by
              show need (cleanB d.dr v = true) _ = _
              unfold need
              rw [if_neg hc]
            rw [e2] at run
            exact run.elim
end
end OI
set_option maxRecDepth 100000
set_option maxHeartbeats 4000000
/-! OI51: all defs of a module keep their promises. -/
namespace OI
open PySem PySem.Spec PyProof.Rows L2
section
variable {T : List FnA} {K : PySem.W.Frag} {P : Program} {w : World} {mg : Str → Option Value} {base : Heap} {ER : ERel}
/-- what is seen of a def's text -/
def scopeB (N Q : List Str) (sc : Scope) : Bool := decide (sc.kind = .function) && !sc.isCoroutine && !sc.isGenerator && decide N.Nodup && decide (N.take Q.length = Q) &&
  (Q.all fun x => decide (sc.names.lookup x = some .local) || decide (sc.names.lookup x = some .cell)) && sc.names.all fun y => decide (y.2 ≠ .free)
theorem scopeB_ok {N Q : List Str} {sc : Scope} (h : scopeB N Q sc = true) : FnScope N Q sc := by
  simp only [scopeB, Bool.and_eq_true, decide_eq_true_eq, Bool.not_eq_true', List.all_eq_true, Bool.or_eq_true] at h
  obtain ⟨⟨⟨⟨⟨⟨a, b⟩, c⟩, d⟩, e⟩, f⟩, g⟩ := h
  exact ⟨a, b, c, d, e, f, g⟩
def parB (ps : List Str) (a : Arguments) : Bool := a.posonlyargs.isEmpty && decide (a.args.map (·.arg) = ps) && a.vararg.isNone && a.kwonlyargs.isEmpty && a.kwarg.isNone
def FnA.N (d : FnA) : List Str := d.ns.map Str.ofString
def FnA.ps (d : FnA) : List Str := d.N.take d.np
/-- a def's text -/
def defB (T : List FnA) (d : FnA) (a : Arguments) (sc : Scope) (body : List Stmt) : Bool := fnB T d sc body && scopeB d.N d.ps sc && parB d.ps a && decide (d.np ≤ 1000)
/-- where a def stands -/
structure DefAt (K : PySem.W.Frag) (mg : Str → Option Value) (T : List FnA) (d : FnA) : Prop where
  ex : ∃ (a : Addr) (fd : FuncData) (x qual : Str) (params : Arguments) (body : List Stmt) (sc : Scope) (kws : List (Str × V)), mg (Str.ofString d.name) = some (.ref a) ∧ FunD K x qual params body sc [] kws a fd ∧ defB T d params sc body = true
structure ModAt (K : PySem.W.Frag) (mg : Str → Option Value) (T : List FnA) : Prop where
  defs : ∀ d ∈ T, DefAt K mg T d
  free : ∀ p : Prim, mg (Str.ofString p.nm) = none
  isin : mg "isinstance" = none
  tys : ∀ t : Ty, mg (Str.ofString t.nm) = none
  gls : ∀ (x : String) (v : PV), constB T x v = true → ∃ u w, mg (Str.ofString x) = some u ∧ RelV w u ∧ ∀ H, Dp K H w (toD v)
theorem callN_zero {f : Nat} {vs : List PV} : callN T 0 f vs = .stuck := rfl
theorem idx_take {N : List Str} {x : Str} {np : Nat} (h : (N.idxOf? x).getD 1000 < np) (hnp : np ≤ 1000) : ((N.take np).idxOf? x).getD 1000 = (N.idxOf? x).getD 1000 := by
  induction N generalizing np with
  | nil => simp
  | cons y N ih =>
    cases np with
    | zero => omega
    | succ np =>
      rw [List.take_succ_cons, List.idxOf?_cons, List.idxOf?_cons] at *
      by_cases e : (y == x) = true
      · simp [e]
      · simp only [e] at h ⊢
        cases q : N.idxOf? x with
        | none => rw [q] at h; simp at h; omega
        | some j =>
          rw [q] at h
          simp at h
          have := ih (np := np) (by rw [q]; simpa using h) (by omega)
          rw [q] at this
          cases q2 : (N.take np).idxOf? x with
          | none => rw [q2] at this; simp at this; omega
          | some j2 => rw [q2] at this; simp at this; simp [this]
theorem ps_len {d : FnA} {sc : Scope} {body : List Stmt} (h : fnB T d sc body = true) : d.ps.length = d.np := by
  simp only [fnB, Bool.and_eq_true, decide_eq_true_eq] at h
  have := h.1.1.1
  simp only [FnA.ps, FnA.N, List.length_take, List.length_map]
  omega
theorem kb_ok {d : FnA} {a : Addr} {fd : FuncData} {x qual : Str} {params : Arguments} {body : List Stmt} {sc : Scope} {kw0 : List (Str × V)} (F : FunD K x qual params body sc [] kw0 a fd) (hb : defB T d params sc body = true) :
    ∀ (n : Nat) (kws : List Keyword), kwPlain kws = true → (ixOf (d.ns.map Str.ofString) n kws).length = d.np → (ixOf (d.ns.map Str.ofString) n kws).Nodup → (∀ j ∈ ixOf (d.ns.map Str.ofString) n kws, j < d.np) →
      ∃ gg, KBn K fd d.ps n (kws.filterMap (·.arg)) gg (fun vs zs => byIx d.np (ixOf (d.ns.map Str.ofString) n kws) (vs ++ zs)) := by
  intro n kws hkw hl hnd hlt
  simp only [defB, Bool.and_eq_true, decide_eq_true_eq] at hb
  obtain ⟨⟨⟨hfn, hsc⟩, hpar⟩, h1000⟩ := hb
  simp only [parB, Bool.and_eq_true, decide_eq_true_eq, List.isEmpty_iff, Option.isNone_iff_eq_none] at hpar
  obtain ⟨⟨⟨⟨p1, p2⟩, p3⟩, p4⟩, p5⟩ := hpar
  have S := scopeB_ok hsc
  obtain ⟨oc, od, dV, kV, doc, pm, an, cdv, ct, osl, rfl, lk, hcd, hdv, _⟩ := F.ex
  have hd : dV = .none := by
    rcases hdv with ⟨_, h⟩ | ⟨h, _⟩
    · exact h
    · exact absurd rfl h
  subst hd
  have hnd' : d.ps.Nodup := (List.take_sublist _ _).nodup S.nd
  refine kbn_plain (np := d.np) p1 p2 p3 p4 p5 rfl hnd' (ps_len hfn) h1000 hkw ?_ hl hnd hlt
  unfold ixOf
  congr 1
  refine List.map_congr_left fun k hk => ?_
  have hj := hlt ((k.arg.bind fun x => (d.ns.map Str.ofString).idxOf? x).getD 1000) (by unfold ixOf; exact List.mem_append_right _ (List.mem_map_of_mem hk))
  cases hk0 : k.arg with
  | none => rfl
  | some x =>
    rw [hk0] at hj
    simp only [Option.bind_some] at hj ⊢
    exact (idx_take hj h1000).symm
/-- a def over what is known of the defs with less room -/
theorem fn_step (M : ModAt K mg T) {k f : Nat} {g : FnA} {a : Addr} {fd : FuncData} {x qual : Str} {params : Arguments} {body : List Stmt} {sc : Scope} {kw0 : List (Str × V)} (hf : T[f]? = some g) (F : FunD K x qual params body sc [] kw0 a fd) (hb : defB T g params sc body = true)
    (ih : ∀ (f : Nat) (g : FnA), T[f]? = some g → ∃ (a : Addr) (fd : FuncData) (ps : List Str), mg (Str.ofString g.name) = some (.ref a) ∧ PySem.W.keepIn K (.ref a) = true ∧
      FnOk P w K mg base (L2.CX P w) k a fd ps (SpecOf K ER (callN T k f) g) ∧
      ∀ (n : Nat) (kws : List Keyword), kwPlain kws = true → (ixOf (g.ns.map Str.ofString) n kws).length = g.np → (ixOf (g.ns.map Str.ofString) n kws).Nodup → (∀ j ∈ ixOf (g.ns.map Str.ofString) n kws, j < g.np) →
        ∃ gg, KBn K fd ps n (kws.filterMap (·.arg)) gg (fun vs zs => byIx g.np (ixOf (g.ns.map Str.ofString) n kws) (vs ++ zs))) :
    FnOk P w K mg base (L2.CX P w) (k + 1) a fd g.ps (SpecOf K ER (callN T (k + 1) f) g) := by
  simp only [defB, Bool.and_eq_true, decide_eq_true_eq] at hb
  obtain ⟨⟨⟨hfn, hsc⟩, hpar⟩, h1000⟩ := hb
  have S := scopeB_ok hsc
  refine F.ok S (fun vs H Q E h => ?_) (fun cdv A outer s H vs Q E hr h => ?_)
  · obtain ⟨pvs, Z, L, l1, _⟩ := h
    rw [ps_len hfn]
    exact l1
  · rw [callN_succ hf] at h
    refine ⟨_, pss_ws, body_ok (T := T) (k := k) (G := ctxN T k) (ER := ER) ?_ rfl hfn h⟩
    exact {
      calm := rfl
      room := hr
      nd := S.nd
      tk := takes_of rfl rfl rfl rfl
      kind := S.kind
      free := M.free
      isin := M.isin
      tys := M.tys
      fns := ⟨fun f g h => by simp [ctxN, h, FnA.sig], fun f g h => ih f g h⟩
      gls := M.gls
      fn := fun _ => rfl
      po := passes_of rfl
      stk := rfl
      frm := rfl }
theorem fns_ok (M : ModAt K mg T) : ∀ (k f : Nat) (g : FnA), T[f]? = some g → ∃ (a : Addr) (fd : FuncData) (ps : List Str), mg (Str.ofString g.name) = some (.ref a) ∧ PySem.W.keepIn K (.ref a) = true ∧
    FnOk P w K mg base (L2.CX P w) k a fd ps (SpecOf K ER (callN T k f) g) ∧
    ∀ (n : Nat) (kws : List Keyword), kwPlain kws = true → (ixOf (g.ns.map Str.ofString) n kws).length = g.np → (ixOf (g.ns.map Str.ofString) n kws).Nodup → (∀ j ∈ ixOf (g.ns.map Str.ofString) n kws, j < g.np) →
      ∃ gg, KBn K fd ps n (kws.filterMap (·.arg)) gg (fun vs zs => byIx g.np (ixOf (g.ns.map Str.ofString) n kws) (vs ++ zs)) := by
  intro k
  induction k with
  | zero =>
    intro f g hf
    obtain ⟨a, fd, x, qual, params, body, sc, kw0, h1, F, hb⟩ := (M.defs g (List.mem_of_getElem? hf)).ex
    refine ⟨a, fd, g.ps, h1, F.kp, ⟨fun vs H Q E h => ?_, fun A outer s H args us vs Q E hr he hbd hv h => ?_⟩, kb_ok F hb⟩
    · obtain ⟨pvs, Z, L, _, _, _, _, _, _, h⟩ := h
      exact h.elim
    · obtain ⟨pvs, Z, L, _, _, _, _, _, _, h⟩ := h
      exact h.elim
  | succ k ih =>
    intro f g hf
    obtain ⟨a, fd, x, qual, params, body, sc, kw0, h1, F, hb⟩ := (M.defs g (List.mem_of_getElem? hf)).ex
    exact ⟨a, fd, g.ps, h1, F.kp, fn_step M hf F hb ih, kb_ok F hb⟩
end
end OI
set_option maxRecDepth 100000
set_option maxHeartbeats 4000000
/-! OI52: a law's head: what is looked at behind the top, and the law's end. -/
namespace OI
open PySem PySem.Spec PyProof.Rows L2 He
/-! ### the module as it stands behind the top, without its lists -/
def lstO (o : Obj) : Bool := match o.cls with
  | .type c => decide (c = "list")
  | _ => false
def noL (g : Addr → Option Obj) (a : Addr) : Option Obj := match g a with
  | some o => if lstO o = true then none else some o
  | none => none
theorem noL_ok {g : Addr → Option Obj} {a : Addr} {o : Obj} (h : noL g a = some o) : g a = some o ∧ lstO o = false := by
  unfold noL at h
  cases e : g a with
  | none => rw [e] at h; cases h
  | some u =>
    rw [e] at h
    by_cases hl : lstO u = true
    · simp [hl] at h
    · simp only [hl] at h
      cases h
      exact ⟨rfl, by simpa using hl⟩
def NoLst (K : PySem.W.Frag) : Prop := ∀ a o, K.lookup a = some o → o.cls ≠ .type "list"
def dvOf : PV → Dv
  | .bl b => .bl b
  | .int i => .int i
  | .str x => .str x
  | _ => .non
/-- a constant of the module -/
def constK (K : PySem.W.Frag) (p : String × PV) : Bool := match p.2 with
  | .int i => (Fa.int (Str.ofString p.1) i).ok K
  | .str z => (Fa.str (Str.ofString p.1) z).ok K
  | .tup vs => (Fa.glo (Str.ofString p.1)).ok K && (tupB K (Str.ofString p.1) (vs.map dvOf) && vs.all scaP)
  | _ => false
abbrev AlL : Type := Bool × List FnW
def obsL (fa : List Fa) (fn : List DefD) (cs : List (String × PV)) (K : PySem.W.Frag) : AlL := ((fa.all fun f => f.ok K) && ((fn.all fun d => d.ok K) && cs.all (constK K)), fn.map fun d => fnW K d.at_)
def valL (fn : List DefD) : AlL := (true, fn.map DefD.val)
def SaysL (fa : List Fa) (fn : List DefD) (cs : List (String × PV)) (K : PySem.W.Frag) : Prop := obsL fa fn cs K = valL fn
def obsLG (n : Nat) (fa : List Fa) (fn : List DefD) (cs : List (String × PV)) (g : Addr → Option Obj) : AlL := obsL fa fn cs (frG (noL g) (asD g n))
def hookL (n : Nat) (fa : List Fa) (fn : List DefD) (cs : List (String × PV)) : PySem.W.Hook where
  α := AlL
  obs := fun s => obsLG n fa fn cs s.heap.get?
  val := fun _ => valL fn
  says := fun _ h => ∃ K : PySem.W.Frag, K.In h ∧ NoLst K ∧ SaysL fa fn cs K
  of := fun _ s e => ⟨frG (noL s.heap.get?) (asD s.heap.get? n), fun _ _ h => (noL_ok (frG_at _ h)).1, fun a o h hc => by
    have := (noL_ok (frG_at _ h)).2
    unfold lstO at this
    rw [hc] at this
    simp at this, e⟩
  keeps := fun _ _ _ ⟨K, hK, hn, c⟩ k => ⟨K, PySem.W.Frag.In.keeps hK k, hn, c⟩
theorem obsLG_eq {n : Nat} {fa : List Fa} {fn : List DefD} {cs : List (String × PV)} {g : Addr → Option Obj} {s : Shared} (h : ∀ a, g a = s.heap.get? a) : obsLG n fa fn cs g = (hookL n fa fn cs).obs s := by
  have e : g = s.heap.get? := funext h
  rw [e] <;> rfl
section
variable {fa : List Fa} {fn : List DefD} {cs : List (String × PV)} {K : PySem.W.Frag} {mg : Str → Option Value} {h : Heap}
theorem SaysL.fact (c : SaysL fa fn cs K) {f : Fa} (hf : f ∈ fa) : f.ok K = true := by
  have c1 := (ba (show ((fa.all fun f => f.ok K) && ((fn.all fun d => d.ok K) && cs.all (constK K))) = true from congrArg (fun z : AlL => z.1) c)).1
  exact List.all_eq_true.mp c1 f hf
theorem SaysL.def_ (c : SaysL fa fn cs K) {d : DefD} (hd : d ∈ fn) : ∃ fd, FunD K d.name d.qual d.params d.body d.scope (d.dvs K) (d.kws K) (fAd K d.at_) fd := by
  have c2 := (ba (ba (show ((fa.all fun f => f.ok K) && ((fn.all fun d => d.ok K) && cs.all (constK K))) = true from congrArg (fun z : AlL => z.1) c)).2).1
  have e : fn.map (fun d => fnW K d.at_) = fn.map DefD.val := congrArg (fun z : AlL => z.2) c
  obtain ⟨i, hi⟩ := List.mem_iff_getElem?.mp hd
  have e2 : (fn.map fun d => fnW K d.at_)[i]? = (fn.map DefD.val)[i]? := by rw [e]
  rw [List.getElem?_map, List.getElem?_map, hi] at e2
  exact DefD.funD (Option.some.inj e2) (List.all_eq_true.mp c2 d hd)
theorem SaysL.const (c : SaysL fa fn cs K) {p : String × PV} (hp : p ∈ cs) : constK K p = true := by
  have c2 := (ba (ba (show ((fa.all fun f => f.ok K) && ((fn.all fun d => d.ok K) && cs.all (constK K))) = true from congrArg (fun z : AlL => z.1) c)).2).2
  exact List.all_eq_true.mp c2 p hp
theorem dpall_sca {H : Hp} : ∀ {vs : List PV}, vs.all scaP = true → DpAll K H ((vs.map dvOf).map (Dv.v K)) (toDs vs)
  | [], _ => .nil
  | v :: vs, h => by
    simp only [List.all_cons, Bool.and_eq_true] at h
    refine .cons ?_ (dpall_sca h.2)
    cases v <;> simp only [scaP, Bool.false_eq_true, false_and] at h
    · exact .non
    · exact .bl _
    · exact .int _
    · exact .str _
theorem const_ok (X : K.In h) (G : h.Ns mainGlobals mg) {x : String} {v : PV} (c : constK K (x, v) = true) : ∃ u w, mg (Str.ofString x) = some u ∧ RelV w u ∧ ∀ H, Dp K H w (toD v) := by
  cases v <;> simp only [constK, Bool.false_eq_true] at c
  · obtain ⟨t, e⟩ := int_ok X G c
    exact ⟨_, .int _, e, ⟨t, rfl⟩, fun H => .int _⟩
  · obtain ⟨t, e⟩ := str_ok X G c
    exact ⟨_, .str _, e, ⟨t, rfl⟩, fun H => .str _⟩
  · rename_i vs
    obtain ⟨c1, c2⟩ := ba c
    obtain ⟨c3, c4⟩ := ba c2
    exact ⟨_, .ref _, glo_ok X G c1, rfl, fun H => by rw [toD]; exact .tup (tupB_ok c3 H) (dpall_sca c4)⟩
/-! ### a module of defs by its text -/
def freeNms : List String := ["len", "range", "enumerate", "zip", "reversed", "tuple", "list", "sorted", "sum", "min", "max", "abs", "int", "str", "all", "any", "set", "dict", "isinstance", "bool", ""]
def faOf (T : List FnA) : List Fa := T.map (fun g => .glo (Str.ofString g.name)) ++ freeNms.map fun x => .free (Str.ofString x)
def csOf (T : List FnA) : List (String × PV) := T.flatMap (·.gl)
def pairB (T : List FnA) : List FnA → List DefD → Bool
  | [], [] => true
  | g :: gs, d :: ds => decide (d.at_ = (Str.ofString g.name, none)) && (d.dfl.isEmpty && (d.kwd.isEmpty && (defB T g d.params d.scope d.body && pairB T gs ds)))
  | _, _ => false
theorem pairB_at {T : List FnA} : ∀ {gs : List FnA} {ds : List DefD} {g : FnA}, pairB T gs ds = true → g ∈ gs → ∃ d ∈ ds, d.at_ = (Str.ofString g.name, none) ∧ d.dfl = [] ∧ d.kwd = [] ∧ defB T g d.params d.scope d.body = true
  | [], _, g, _, h => nomatch h
  | g0 :: gs, [], g, h, _ => by simp [pairB] at h
  | g0 :: gs, d :: ds, g, h, hm => by
    simp only [pairB, Bool.and_eq_true, decide_eq_true_eq, List.isEmpty_iff] at h
    obtain ⟨h1, h2, h3, h4, h5⟩ := h
    rcases List.mem_cons.mp hm with e | hm
    · subst e
      exact ⟨d, List.mem_cons_self, h1, h2, h3, h4⟩
    · obtain ⟨d', a, b⟩ := pairB_at h5 hm
      exact ⟨d', List.mem_cons_of_mem _ a, b⟩
theorem mod_at {T : List FnA} (X : K.In h) (G : h.Ns mainGlobals mg) (c : SaysL (faOf T) fn (csOf T) K) (hb : pairB T T fn = true) : ModAt K mg T := by
  have fr : ∀ x : String, x ∈ freeNms → mg (Str.ofString x) = none := fun x hx => free_ok X G (c.fact (f := .free (Str.ofString x)) (List.mem_append_right _ (List.mem_map_of_mem hx)))
  refine ⟨fun g hg => ?_, fun p => fr _ ?_, fr _ (by decide), fun t => fr _ ?_, fun x v hc => ?_⟩
  · obtain ⟨d, hd, h1, h2, h3, h4⟩ := pairB_at hb hg
    obtain ⟨fd, F⟩ := c.def_ hd
    have e1 : d.dvs K = [] := by unfold DefD.dvs; rw [h2]; rfl
    have e3 : fAd K d.at_ = ga K (Str.ofString g.name) := by rw [h1]; rfl
    rw [e1, e3] at F
    exact ⟨_, fd, _, _, _, _, _, _, glo_ok X G (c.fact (f := .glo (Str.ofString g.name)) (List.mem_append_left _ (List.mem_map.mpr ⟨g, hg, rfl⟩))), F, h4⟩
  · cases p <;> decide
  · cases t <;> first | decide | (simp only [Ty.nm]; decide)
  · simp only [constB, List.any_eq_true, Bool.and_eq_true, decide_eq_true_eq] at hc
    obtain ⟨d, hd, p, hp, rfl, h2⟩ := hc
    have e := sameC_eq h2
    subst e
    exact const_ok X G (c.const (p := p) (List.mem_flatMap.mpr ⟨d, hd, hp⟩))
/-! ### the law's end -/
theorem script_rep {H : Hp} {a : Addr} {ns : List Int} (hS : Rd H a (.lst (ns.map V.int))) : Rep K H (fun b => b = a) 0 (.lst (ns.map PV.int)) (.ref a) [] := by
  refine .lst0 ⟨hS, rfl⟩ (F := []) ?_
  clear hS
  induction ns with
  | nil => exact .nil
  | cons n ns ih => exact Reps.cons (F := []) (G := []) (.int n) ih fun _ z => nomatch z
theorem law_spec {ER : ERel} {run : List PV → Res (PV × Option PV)} {g : FnA} {H : Hp} {a : Addr} {ns : List Int} {o : Option PV} (nl : NoLst K) (hp : g.np = 1) (hio : g.io = none) (hdr : g.dr = 0) (hr : run [.lst (ns.map PV.int)] = .ok (.bl true, o)) (hS : SqL K H a (ns.map V.int)) :
    SpecOf K ER run g [.ref a] H (fun v _ => v = .bl true) (fun _ _ _ => False) := by
  have hR : Rd H a (.lst (ns.map V.int)) := by
    rcases hS with h | ⟨ob, its, n, h1, h2, _⟩
    · exact h
    · exact absurd h2 (nl a ob h1)
  refine ⟨[.lst (ns.map PV.int)], fun b => b = a, [], by rw [hp]; rfl, by rw [hp]; rfl, fun j v w hv hw => ?_, fun _ h => (nomatch h), fun _ => rfl, fun b hb => ?_, ?_⟩
  · cases j with
    | zero =>
      simp at hv hw
      subst hv hw
      have : g.pd 0 = 0 := by unfold FnA.pd; rw [hio]; rfl
      rw [this, hio]
      exact script_rep hR
    | succ j => simp at hv
  · rw [hb]
    rcases hR with h | ⟨u, h⟩ <;> rw [h] <;> simp
  · rw [hr]
    intro w H' F' O _ _ rv _ _
    unfold retT at rv
    rw [hdr] at rv
    have rv2 : Rep K H' (fun _ => False) 0 (.bl true) w [] := rv.2.2
    cases rv2
    rfl
end
theorem bind_one {K : PySem.W.Frag} {T : List FnA} {g : FnA} {a : Addr} {fd : FuncData} {x qual : Str} {params : Arguments} {body : List Stmt} {sc : Scope} {kw0 : List (Str × V)} (F : FunD K x qual params body sc [] kw0 a fd) (hb : defB T g params sc body = true) (hp : g.np = 1) :
    ∃ x, g.ps = [x] ∧ ∀ (s : Shared) (u : Value), BindsTo s fd ⟨[u], []⟩ [(x, u)] := by
  simp only [defB, Bool.and_eq_true, decide_eq_true_eq] at hb
  obtain ⟨⟨⟨hfn, hsc⟩, hpar⟩, h1000⟩ := hb
  have hl := ps_len hfn
  rw [hp] at hl
  obtain ⟨y, hy⟩ := len1 hl
  simp only [parB, Bool.and_eq_true, decide_eq_true_eq, List.isEmpty_iff, Option.isNone_iff_eq_none] at hpar
  obtain ⟨⟨⟨⟨p1, p2⟩, p3⟩, p4⟩, p5⟩ := hpar
  obtain ⟨oc, od, dV, kV, doc, pm, an, cdv, ct, osl, rfl, lk, hcd, hdv, _⟩ := F.ex
  have hd : dV = .none := by
    rcases hdv with ⟨_, h⟩ | ⟨h, _⟩
    · exact h
    · exact absurd rfl h
  subst hd
  refine ⟨y, hy, fun s u => BindsTo.of_eq ?_⟩
  have := bind_plain (fd := PySem.W.fnOf x qual params body sc .none kV doc pm an cdv ct) (ps := g.ps) p1 p2 p3 p4 p5 rfl [u] [] [] rfl (by rw [hy]; rfl) (fun _ h => nomatch h) (by rw [hy]; simp) (fun p h => by rw [hy] at h ⊢; exact .inl h)
  rw [hy] at this
  simpa using this
/-- a law by what its def gives -/
theorem law_walk {l : PySem.W.OpenLaw} {n k i : Nat} {q : Program} {loose : List Str} {XP : (Str → Option Value) → Heap → Prop} {d : DefRec} {T : List FnA} {fn : List DefD} {g : FnA}
    (hn : l.most = some n) (hn2 : n ≤ sizeLine) (hdf : d.params.defaults = []) (hr : Room (k + 1) callerA) (hb : pairB T T fn = true) (hi : T[i]? = some g) (hname : d.name = Str.ofString g.name) (hp : g.np = 1) (hio : g.io = none) (hdr : g.dr = 0)
    (run : ∀ ns : List Int, ns.length ≤ n → (∀ k ∈ ns, Builtin.Int.intBits k ≤ 1048576) → ∃ o, callN T (k + 1) i [.lst (ns.map PV.int)] = .ok (.bl true, o)) :
    PySem.W.WalkO q loose XP (fun _ h => ∃ K : PySem.W.Frag, K.In h ∧ NoLst K ∧ SaysL (faOf T) fn (csOf T) K) l.row.toRowW d [] (fun f vs => PySem.call f vs) := by
  refine Att.attach_callB hn hdf fun w s₀ s₁ mg mb fa o pm cd doc a vs ns G Y ho hd hcd hmg hobj hints hlen hbits hg => ?_
  obtain ⟨K, KX, nl, c⟩ := Y
  have M := mod_at (mg := mg) KX G.T.g c hb
  obtain ⟨a', fd, x, qual, params, body, sc, kw0, h1, F, hb'⟩ := (M.defs g (List.mem_of_getElem? hi)).ex
  rw [hname, h1] at hmg
  cases hmg
  obtain ⟨y, hy, hbd⟩ := bind_one F hb' hp
  obtain ⟨o', hrun⟩ := run ns hlen hbits
  refine law_call (CX := L2.CX l.prog w) (k := k + 1) KX G.T.g G.T.b G.T.builtins G.T.nolimit hg hobj hints (Nat.le_trans hlen hn2) hr (fun base _ _ => hy ▸ fn_step (ER := fun _ _ _ _ => False) M hi F hb' (fns_ok M k)) hbd (fun H hO hS => law_spec nl hp hio hdr hrun hS) fun H e s' h => ?_
  obtain ⟨_, _, _, _, _, _, _, _, _, _, _, _, z⟩ := h
  exact z
end OI
set_option maxRecDepth 100000
set_option maxHeartbeats 4000000
/-! OI53: what a run of the small language gives: a calculus for pure proofs. -/
namespace OI
/-- it ends well, so that Q -/
def wp {α : Type} (r : Res α) (Q : α → Prop) : Prop := match r with
  | .ok a => Q a
  | .exc _ => False
  | .stuck => False
section
variable {α β : Type} {Q Q' : α → Prop}
@[simp] theorem wp_ok {a : α} : wp (.ok a) Q ↔ Q a := Iff.rfl
@[simp] theorem wp_stuck : wp (.stuck : Res α) Q ↔ False := Iff.rfl
@[simp] theorem wp_exc {x : PV} : wp (.exc x : Res α) Q ↔ False := Iff.rfl
@[simp] theorem wp_bind {r : Res β} {f : β → Res α} : wp (r.bind f) Q ↔ wp r fun b => wp (f b) Q := by
  cases r <;> exact Iff.rfl
@[simp] theorem wp_need {c : Prop} [Decidable c] {r : Res α} : wp (need c r) Q ↔ c ∧ wp r Q := by
  unfold need
  split
  · exact ⟨fun h => ⟨by assumption, h⟩, fun h => h.2⟩
  · exact ⟨fun h => h.elim, fun h => absurd h.1 (by assumption)⟩
@[simp] theorem wp_noExc {r : Res α} : wp (noExc r) Q ↔ wp r Q := by
  cases r <;> exact Iff.rfl
theorem wp_mono {r : Res α} (h : wp r Q) (k : ∀ a, Q a → Q' a) : wp r Q' := by
  cases r with
  | ok a => exact k a h
  | exc x => exact h
  | stuck => exact h
theorem wp_iff {r : Res α} : wp r Q ↔ ∃ a, r = .ok a ∧ Q a := by
  cases r with
  | ok a => exact ⟨fun h => ⟨a, rfl, h⟩, fun ⟨b, e, h⟩ => by cases e; exact h⟩
  | exc x => exact ⟨fun h => h.elim, fun ⟨b, e, h⟩ => by cases e⟩
  | stuck => exact ⟨fun h => h.elim, fun ⟨b, e, h⟩ => by cases e⟩
theorem wp_eq {r : Res α} {a : α} (h : r = .ok a) (q : Q a) : wp r Q := by rw [h]; exact q
end
/-! ### loops -/
/-- behind one turn -/
def turn (I : Env → Prop) (P : Flow → Prop) : Flow → Prop
  | .next e => I e
  | .cnt e => I e
  | .brk e => P (.next e)
  | .ret v e => P (.ret v e)
@[simp] theorem turn_next {I : Env → Prop} {P : Flow → Prop} {e : Env} : turn I P (.next e) ↔ I e := Iff.rfl
@[simp] theorem turn_cnt {I : Env → Prop} {P : Flow → Prop} {e : Env} : turn I P (.cnt e) ↔ I e := Iff.rfl
@[simp] theorem turn_brk {I : Env → Prop} {P : Flow → Prop} {e : Env} : turn I P (.brk e) ↔ P (.next e) := Iff.rfl
@[simp] theorem turn_ret {I : Env → Prop} {P : Flow → Prop} {v : PV} {e : Env} : turn I P (.ret v e) ↔ P (.ret v e) := Iff.rfl
theorem wp_for {t : Tg} {b : Env → Res Flow} {P : Flow → Prop} (I : List PV → Env → Prop) : ∀ {xs : List PV} {env : Env}, I xs env →
    (∀ x xs env, I (x :: xs) env → wp (storeT t x env) fun e => wp (b e) (turn (I xs) P)) → (∀ env, I [] env → P (.next env)) → wp (forR t b xs env) P
  | [], env, h, _, he => he env h
  | x :: xs, env, h, hs, he => by
    unfold forR
    rw [wp_bind]
    refine wp_mono (hs x xs env h) fun e h => ?_
    rw [wp_bind]
    refine wp_mono h fun f h => ?_
    cases f with
    | next e => exact wp_for I h hs he
    | cnt e => exact wp_for I h hs he
    | brk e => exact h
    | ret v e => exact h
theorem loopN_mono {c : Env → Res (Bool × Env)} {b : Env → Res Flow} {r : Res Flow} : ∀ {n m : Nat} {env : Env}, n ≤ m → loopN c b n env = some r → loopN c b m env = some r
  | 0, _, _, _, h => by cases h
  | n + 1, 0, _, h, _ => by omega
  | n + 1, m + 1, env, hm, h => by
    unfold loopN at h ⊢
    cases e1 : c env with
    | stuck => rw [e1] at h; exact h
    | exc x => rw [e1] at h; exact h
    | ok p =>
      obtain ⟨t, env1⟩ := p
      rw [e1] at h
      cases t with
      | false => exact h
      | true =>
        simp only at h ⊢
        cases e2 : b env1 with
        | stuck => rw [e2] at h; exact h
        | exc x => rw [e2] at h; exact h
        | ok f =>
          rw [e2] at h
          cases f with
          | next e => exact loopN_mono (Nat.le_of_succ_le_succ hm) h
          | cnt e => exact loopN_mono (Nat.le_of_succ_le_succ hm) h
          | brk e => exact h
          | ret v e => exact h
theorem whileR_of {c : Env → Res (Bool × Env)} {b : Env → Res Flow} {r : Res Flow} {n : Nat} {env : Env} (h : loopN c b n env = some r) : whileR c b env = r := by
  unfold whileR
  have hx : ∃ r, ∃ n, loopN c b n env = some r := ⟨r, n, h⟩
  rw [dif_pos hx]
  obtain ⟨m, hm⟩ := hx.choose_spec
  have h1 := loopN_mono (Nat.le_max_left n m) h
  have h2 := loopN_mono (Nat.le_max_right n m) hm
  rw [h1] at h2
  exact (Option.some.inj h2).symm
/-- a while: its turns grow fewer -/
theorem wp_whl {c : Env → Res (Bool × Env)} {b : Env → Res Flow} {P : Flow → Prop} (I : Nat → Env → Prop) {n : Nat} {env : Env} (h : I n env)
    (hs : ∀ n env, I n env → wp (c env) fun p => (p.1 = false → P (.next p.2)) ∧ (p.1 = true → wp (b p.2) (turn (fun e => ∃ m, m < n ∧ I m e) P))) : wp (whileR c b env) P := by
  have main : ∀ (n : Nat) (env : Env), I n env → ∃ k r, loopN c b k env = some r ∧ wp r P := by
    intro n
    induction n using Nat.strongRecOn with
    | _ n ih =>
      intro env hI
      have q := hs n env hI
      cases e1 : c env with
      | stuck => rw [e1] at q; exact q.elim
      | exc x => rw [e1] at q; exact q.elim
      | ok p =>
        obtain ⟨t, env1⟩ := p
        rw [e1] at q
        cases t with
        | false => exact ⟨1, .ok (.next env1), by simp [loopN, e1], q.1 rfl⟩
        | true =>
          have q2 := q.2 rfl
          cases e2 : b env1 with
          | stuck => simp only [e2] at q2; exact q2.elim
          | exc x => simp only [e2] at q2; exact q2.elim
          | ok f =>
            simp only [e2, wp_ok] at q2
            cases f with
            | next e =>
              obtain ⟨m, hm, hI2⟩ := q2
              obtain ⟨k, r, hk, hr⟩ := ih m hm e hI2
              exact ⟨k + 1, r, by simp [loopN, e1, e2, hk], hr⟩
            | cnt e =>
              obtain ⟨m, hm, hI2⟩ := q2
              obtain ⟨k, r, hk, hr⟩ := ih m hm e hI2
              exact ⟨k + 1, r, by simp [loopN, e1, e2, hk], hr⟩
            | brk e => exact ⟨1, .ok (.next e), by simp [loopN, e1, e2], q2⟩
            | ret v e => exact ⟨1, .ok (.ret v e), by simp [loopN, e1, e2], q2⟩
  obtain ⟨k, r, hk, hr⟩ := main n env h
  rw [whileR_of hk]
  exact hr
end OI
set_option maxRecDepth 100000
set_option maxHeartbeats 4000000
/-! OI54: the calculus by named continuations: simp works from the outside in. -/
namespace OI
open PySem
section
variable {G : Ctx} {env : OI.Env} {Q : OI.Flow → Prop} {P : PV × OI.Env → Prop}
def kSeq (G : Ctx) (ss : List OI.S) (Q : OI.Flow → Prop) : OI.Flow → Prop
  | .next e => wp (evalSs G ss e) Q
  | f => Q f
@[simp] theorem kSeq_next {ss : List OI.S} {e : OI.Env} : kSeq G ss Q (.next e) ↔ wp (evalSs G ss e) Q := Iff.rfl
@[simp] theorem kSeq_brk {ss : List OI.S} {e : OI.Env} : kSeq G ss Q (.brk e) ↔ Q (.brk e) := Iff.rfl
@[simp] theorem kSeq_cnt {ss : List OI.S} {e : OI.Env} : kSeq G ss Q (.cnt e) ↔ Q (.cnt e) := Iff.rfl
@[simp] theorem kSeq_ret {ss : List OI.S} {v : PV} {e : OI.Env} : kSeq G ss Q (.ret v e) ↔ Q (.ret v e) := Iff.rfl
@[simp] theorem wpS_nil : wp (evalSs G [] env) Q ↔ Q (.next env) := by simp [evalSs]
@[simp] theorem wpS_cons {s : OI.S} {ss : List OI.S} : wp (evalSs G (s :: ss) env) Q ↔ wp (evalS G s env) (kSeq G ss Q) := by
  simp only [evalSs, wp_bind]
  constructor <;> (intro h; refine wp_mono h fun f h => ?_; cases f <;> exact h)
def kExpr (Q : OI.Flow → Prop) (r : PV × OI.Env) : Prop := Q (.next r.2)
@[simp] theorem kExpr_mk {v : PV} {e : OI.Env} : kExpr Q (v, e) ↔ Q (.next e) := Iff.rfl
@[simp] theorem wpS_expr {e : E} : wp (evalS G (.expr e) env) Q ↔ wp (evalE G e env) (kExpr Q) := by simp only [evalS, wp_bind]; exact Iff.rfl
def kNext (Q : OI.Flow → Prop) (e : OI.Env) : Prop := Q (.next e)
@[simp] theorem kNext_mk {e : OI.Env} : kNext Q e ↔ Q (.next e) := Iff.rfl
def kAsg (t : Tg) (Q : OI.Flow → Prop) (r : PV × OI.Env) : Prop := wp (storeT t r.1 r.2) (kNext Q)
@[simp] theorem kAsg_mk {t : Tg} {v : PV} {e : OI.Env} : kAsg t Q (v, e) ↔ wp (storeT t v e) (kNext Q) := Iff.rfl
@[simp] theorem wpS_asg {t : Tg} {e : E} : wp (evalS G (.asg t e) env) Q ↔ wp (evalE G e env) (kAsg t Q) := by simp only [evalS, wp_bind]; exact Iff.rfl
@[simp] theorem wp_store_nm {i : Nat} {v : PV} {R : OI.Env → Prop} : wp (storeT (.nm i) v env) R ↔ R (setV env i (some v)) := by simp [storeT]
@[simp] theorem wpS_pass : wp (evalS G .pass env) Q ↔ Q (.next env) := by simp [evalS]
@[simp] theorem wpS_brk : wp (evalS G .brk env) Q ↔ Q (.brk env) := by simp [evalS]
@[simp] theorem wpS_cnt : wp (evalS G .cnt env) Q ↔ Q (.cnt env) := by simp [evalS]
@[simp] theorem wpS_retN : wp (evalS G .retN env) Q ↔ Q (.ret .non env) := by simp [evalS]
def kRet (Q : OI.Flow → Prop) (r : PV × OI.Env) : Prop := Q (.ret r.1 r.2)
@[simp] theorem kRet_mk {v : PV} {e : OI.Env} : kRet Q (v, e) ↔ Q (.ret v e) := Iff.rfl
@[simp] theorem wpS_ret {e : E} : wp (evalS G (.ret e) env) Q ↔ wp (evalE G e env) (kRet Q) := by simp only [evalS, wp_bind]; exact Iff.rfl
/-- a test's two ways -/
def kIf (G : Ctx) (a b : List OI.S) (env : OI.Env) (Q : OI.Flow → Prop) (t : Bool) : Prop := (t = true → wp (evalSs G a env) Q) ∧ (t = false → wp (evalSs G b env) Q)
@[simp] theorem kIf_true {a b : List OI.S} : kIf G a b env Q true ↔ wp (evalSs G a env) Q := by simp [kIf]
@[simp] theorem kIf_false {a b : List OI.S} : kIf G a b env Q false ↔ wp (evalSs G b env) Q := by simp [kIf]
def kIte (G : Ctx) (a b : List OI.S) (Q : OI.Flow → Prop) (r : PV × OI.Env) : Prop := wp (truth r.1) (kIf G a b r.2 Q)
@[simp] theorem kIte_mk {a b : List OI.S} {v : PV} {e : OI.Env} : kIte G a b Q (v, e) ↔ wp (truth v) (kIf G a b e Q) := Iff.rfl
@[simp] theorem wpS_ite {ws : List (Nat × Gt)} {c : E} {a b : List OI.S} : wp (evalS G (.ite ws c a b) env) Q ↔ wp (evalE G c env) (kIte G a b Q) := by
  simp only [evalS, wp_bind]
  constructor
  · intro h; refine wp_mono h fun r h => wp_mono h fun t h => ?_; cases t <;> simp at h ⊢ <;> exact h
  · intro h; refine wp_mono h fun r h => wp_mono h fun t h => ?_; cases t <;> simp at h ⊢ <;> exact h
/-! ### expressions -/
@[simp] theorem wpE_int {n : Int} : wp (evalE G (.int n) env) P ↔ P (.int n, env) := by simp [evalE]
@[simp] theorem wpE_str {s : String} : wp (evalE G (.str s) env) P ↔ P (litP s, env) := by simp [evalE]
@[simp] theorem wpE_bl {b : Bool} : wp (evalE G (.bl b) env) P ↔ P (.bl b, env) := by simp [evalE]
@[simp] theorem wpE_non : wp (evalE G .non env) P ↔ P (.non, env) := by simp [evalE]
@[simp] theorem wpE_gl {x : String} {v : PV} : wp (evalE G (.gl x v) env) P ↔ P (v, env) := by simp [evalE]
def kVar (env : OI.Env) (P : PV × OI.Env → Prop) (v : PV) : Prop := P (v, env)
@[simp] theorem kVar_mk {v : PV} : kVar env P v ↔ P (v, env) := Iff.rfl
@[simp] theorem wpE_var {i : Nat} : wp (evalE G (.var i) env) P ↔ wp (getV env i) (kVar env P) := by simp only [evalE, wp_bind]; exact Iff.rfl
@[simp] theorem wpE_mv {i : Nat} : wp (evalE G (.mv i) env) P ↔ wp (getV env i) (kVar env P) := by simp only [evalE, wp_bind]; exact Iff.rfl
@[simp] theorem wpE_fz {i : Nat} {e : E} : wp (evalE G (.fz i e) env) P ↔ wp (evalE G e env) P := by simp [evalE]
variable {R : List PV × OI.Env → Prop}
@[simp] theorem wpL_nil : wp (evalEs G [] env) R ↔ R ([], env) := by simp [evalEs]
def kTail (v : PV) (R : List PV × OI.Env → Prop) (r : List PV × OI.Env) : Prop := R (v :: r.1, r.2)
@[simp] theorem kTail_mk {v : PV} {vs : List PV} {e : OI.Env} : kTail v R (vs, e) ↔ R (v :: vs, e) := Iff.rfl
def kHead (G : Ctx) (es : List E) (R : List PV × OI.Env → Prop) (r : PV × OI.Env) : Prop := wp (evalEs G es r.2) (kTail r.1 R)
@[simp] theorem kHead_mk {es : List E} {v : PV} {e : OI.Env} : kHead G es R (v, e) ↔ wp (evalEs G es e) (kTail v R) := Iff.rfl
theorem wpL_cons {e : E} {es : List E} (h : e.late = false) : wp (evalEs G (e :: es) env) R ↔ wp (evalE G e env) (kHead G es R) := by
  simp only [evalEs, h, wp_bind]; exact Iff.rfl
def kLast (vs : List PV) (env : OI.Env) (R : List PV × OI.Env → Prop) (v : PV) : Prop := R (v :: vs, env)
@[simp] theorem kLast_mk {vs : List PV} {v : PV} : kLast vs env R v ↔ R (v :: vs, env) := Iff.rfl
def kLate (i : Nat) (R : List PV × OI.Env → Prop) (r : List PV × OI.Env) : Prop := wp (getV r.2 i) (kLast r.1 r.2 R)
@[simp] theorem kLate_mk {i : Nat} {vs : List PV} {e : OI.Env} : kLate i R (vs, e) ↔ wp (getV e i) (kLast vs e R) := Iff.rfl
def kThere (G : Ctx) (es : List E) (env : OI.Env) (i : Nat) (R : List PV × OI.Env → Prop) (_ : PV) : Prop := wp (evalEs G es env) (kLate i R)
@[simp] theorem kThere_mk {es : List E} {i : Nat} {v : PV} : kThere G es env i R v ↔ wp (evalEs G es env) (kLate i R) := Iff.rfl
@[simp] theorem wpL_var {i : Nat} {es : List E} : wp (evalEs G (.var i :: es) env) R ↔ wp (getV env i) (kThere G es env i R) := by
  simp only [evalEs, E.late, evalE, wp_bind, wp_ok]; exact Iff.rfl
def kVal (env : OI.Env) (P : PV × OI.Env → Prop) (v : PV) : Prop := P (v, env)
@[simp] theorem kVal_mk {v : PV} : kVal env P v ↔ P (v, env) := Iff.rfl
def kBin (op : Operator) (P : PV × OI.Env → Prop) : List PV × OI.Env → Prop
  | ([a, b], e) => wp (binP op a b) (kVal e P)
  | _ => False
@[simp] theorem kBin_mk {op : Operator} {a b : PV} {e : OI.Env} : kBin op P ([a, b], e) ↔ wp (binP op a b) (kVal e P) := Iff.rfl
@[simp] theorem wpE_bin {d : Nat} {op : Operator} {es : List E} : wp (evalE G (.bin d op es) env) P ↔ wp (evalEs G es env) (kBin op P) := by
  simp only [evalE, wp_bind]
  constructor
  · intro h; refine wp_mono h fun r h => ?_
    obtain ⟨vs, e⟩ := r
    match vs, h with
    | [a, b], h => simp only [wp_bind, wp_ok] at h; exact h
    | [], h => exact h.elim
    | [_], h => exact h.elim
    | _ :: _ :: _ :: _, h => exact h.elim
  · intro h; refine wp_mono h fun r h => ?_
    obtain ⟨vs, e⟩ := r
    match vs, h with
    | [a, b], h => simp only [wp_bind, wp_ok]; exact h
    | [], h => exact h.elim
    | [_], h => exact h.elim
    | _ :: _ :: _ :: _, h => exact h.elim
def kBl (env : OI.Env) (P : PV × OI.Env → Prop) (b : Bool) : Prop := P (.bl b, env)
@[simp] theorem kBl_mk {b : Bool} : kBl env P b ↔ P (.bl b, env) := Iff.rfl
def kCmp (op : CmpOp) (P : PV × OI.Env → Prop) : List PV × OI.Env → Prop
  | ([a, b], e) => wp (cmpP op a b) (kBl e P)
  | _ => False
@[simp] theorem kCmp_mk {op : CmpOp} {a b : PV} {e : OI.Env} : kCmp op P ([a, b], e) ↔ wp (cmpP op a b) (kBl e P) := Iff.rfl
@[simp] theorem wpE_cmp {op : CmpOp} {es : List E} : wp (evalE G (.cmp op es) env) P ↔ wp (evalEs G es env) (kCmp op P) := by
  simp only [evalE, wp_bind]
  constructor
  · intro h; refine wp_mono h fun r h => ?_
    obtain ⟨vs, e⟩ := r
    match vs, h with
    | [a, b], h => simp only [wp_bind, wp_ok] at h; exact h
    | [], h => exact h.elim
    | [_], h => exact h.elim
    | _ :: _ :: _ :: _, h => exact h.elim
  · intro h; refine wp_mono h fun r h => ?_
    obtain ⟨vs, e⟩ := r
    match vs, h with
    | [a, b], h => simp only [wp_bind, wp_ok]; exact h
    | [], h => exact h.elim
    | [_], h => exact h.elim
    | _ :: _ :: _ :: _, h => exact h.elim
def kOr (G : Ctx) (b : E) (v : PV) (env : OI.Env) (P : PV × OI.Env → Prop) (t : Bool) : Prop := (t = true → P (v, env)) ∧ (t = false → wp (evalE G b env) P)
@[simp] theorem kOr_true {b : E} {v : PV} : kOr G b v env P true ↔ P (v, env) := by simp [kOr]
@[simp] theorem kOr_false {b : E} {v : PV} : kOr G b v env P false ↔ wp (evalE G b env) P := by simp [kOr]
def kOr1 (G : Ctx) (b : E) (P : PV × OI.Env → Prop) (r : PV × OI.Env) : Prop := wp (truth r.1) (kOr G b r.1 r.2 P)
@[simp] theorem kOr1_mk {b : E} {v : PV} {e : OI.Env} : kOr1 G b P (v, e) ↔ wp (truth v) (kOr G b v e P) := Iff.rfl
@[simp] theorem wpE_or {a b : E} : wp (evalE G (.or a b) env) P ↔ wp (evalE G a env) (kOr1 G b P) := by
  simp only [evalE, wp_bind]
  constructor
  · intro h; refine wp_mono h fun r h => wp_mono h fun t h => ?_; cases t <;> simp at h ⊢ <;> exact h
  · intro h; refine wp_mono h fun r h => wp_mono h fun t h => ?_; cases t <;> simp at h ⊢ <;> exact h
def kAnd (G : Ctx) (b : E) (v : PV) (env : OI.Env) (P : PV × OI.Env → Prop) (t : Bool) : Prop := (t = true → wp (evalE G b env) P) ∧ (t = false → P (v, env))
@[simp] theorem kAnd_true {b : E} {v : PV} : kAnd G b v env P true ↔ wp (evalE G b env) P := by simp [kAnd]
@[simp] theorem kAnd_false {b : E} {v : PV} : kAnd G b v env P false ↔ P (v, env) := by simp [kAnd]
def kAnd1 (G : Ctx) (b : E) (P : PV × OI.Env → Prop) (r : PV × OI.Env) : Prop := wp (truth r.1) (kAnd G b r.1 r.2 P)
@[simp] theorem kAnd1_mk {b : E} {v : PV} {e : OI.Env} : kAnd1 G b P (v, e) ↔ wp (truth v) (kAnd G b v e P) := Iff.rfl
@[simp] theorem wpE_and {a b : E} : wp (evalE G (.and a b) env) P ↔ wp (evalE G a env) (kAnd1 G b P) := by
  simp only [evalE, wp_bind]
  constructor
  · intro h; refine wp_mono h fun r h => wp_mono h fun t h => ?_; cases t <;> simp at h ⊢ <;> exact h
  · intro h; refine wp_mono h fun r h => wp_mono h fun t h => ?_; cases t <;> simp at h ⊢ <;> exact h
def kSel (G : Ctx) (a b : E) (env : OI.Env) (P : PV × OI.Env → Prop) (t : Bool) : Prop := (t = true → wp (evalE G a env) P) ∧ (t = false → wp (evalE G b env) P)
@[simp] theorem kSel_true {a b : E} : kSel G a b env P true ↔ wp (evalE G a env) P := by simp [kSel]
@[simp] theorem kSel_false {a b : E} : kSel G a b env P false ↔ wp (evalE G b env) P := by simp [kSel]
def kSel1 (G : Ctx) (a b : E) (P : PV × OI.Env → Prop) (r : PV × OI.Env) : Prop := wp (truth r.1) (kSel G a b r.2 P)
@[simp] theorem kSel1_mk {a b : E} {v : PV} {e : OI.Env} : kSel1 G a b P (v, e) ↔ wp (truth v) (kSel G a b e P) := Iff.rfl
@[simp] theorem wpE_ite {c a b : E} : wp (evalE G (.ite c a b) env) P ↔ wp (evalE G c env) (kSel1 G a b P) := by
  simp only [evalE, wp_bind]
  constructor
  · intro h; refine wp_mono h fun r h => wp_mono h fun t h => ?_; cases t <;> simp at h ⊢ <;> exact h
  · intro h; refine wp_mono h fun r h => wp_mono h fun t h => ?_; cases t <;> simp at h ⊢ <;> exact h
@[simp] theorem late_int {n : Int} : E.late (E.int n) = false := rfl
@[simp] theorem wpL_int_ {n : Int} {es' : List E} : wp (evalEs G ((E.int n) :: es') env) R ↔ wp (evalE G (E.int n) env) (kHead G es' R) := wpL_cons rfl
@[simp] theorem late_str {s : String} : E.late (E.str s) = false := rfl
@[simp] theorem wpL_str_ {s : String} {es' : List E} : wp (evalEs G ((E.str s) :: es') env) R ↔ wp (evalE G (E.str s) env) (kHead G es' R) := wpL_cons rfl
@[simp] theorem late_bl {b : Bool} : E.late (E.bl b) = false := rfl
@[simp] theorem wpL_bl_ {b : Bool} {es' : List E} : wp (evalEs G ((E.bl b) :: es') env) R ↔ wp (evalE G (E.bl b) env) (kHead G es' R) := wpL_cons rfl
@[simp] theorem late_non  : E.late E.non = false := rfl
@[simp] theorem wpL_non_  {es' : List E} : wp (evalEs G (E.non :: es') env) R ↔ wp (evalE G E.non env) (kHead G es' R) := wpL_cons rfl
@[simp] theorem late_mv {i : Nat} : E.late (E.mv i) = false := rfl
@[simp] theorem wpL_mv_ {i : Nat} {es' : List E} : wp (evalEs G ((E.mv i) :: es') env) R ↔ wp (evalE G (E.mv i) env) (kHead G es' R) := wpL_cons rfl
@[simp] theorem late_fz {i : Nat} {e : E} : E.late (E.fz i e) = false := rfl
@[simp] theorem wpL_fz_ {i : Nat} {e : E} {es' : List E} : wp (evalEs G ((E.fz i e) :: es') env) R ↔ wp (evalE G (E.fz i e) env) (kHead G es' R) := wpL_cons rfl
@[simp] theorem late_cln {e : E} : E.late (E.cln e) = false := rfl
@[simp] theorem wpL_cln_ {e : E} {es' : List E} : wp (evalEs G ((E.cln e) :: es') env) R ↔ wp (evalE G (E.cln e) env) (kHead G es' R) := wpL_cons rfl
@[simp] theorem late_gl {x : String} {v : PV} : E.late (E.gl x v) = false := rfl
@[simp] theorem wpL_gl_ {x : String} {v : PV} {es' : List E} : wp (evalEs G ((E.gl x v) :: es') env) R ↔ wp (evalE G (E.gl x v) env) (kHead G es' R) := wpL_cons rfl
@[simp] theorem late_tup {d : Nat} {es : List E} : E.late (E.tup d es) = false := rfl
@[simp] theorem wpL_tup_ {d : Nat} {es : List E} {es' : List E} : wp (evalEs G ((E.tup d es) :: es') env) R ↔ wp (evalE G (E.tup d es) env) (kHead G es' R) := wpL_cons rfl
@[simp] theorem late_lst {d : Nat} {es : List E} : E.late (E.lst d es) = false := rfl
@[simp] theorem wpL_lst_ {d : Nat} {es : List E} {es' : List E} : wp (evalEs G ((E.lst d es) :: es') env) R ↔ wp (evalE G (E.lst d es) env) (kHead G es' R) := wpL_cons rfl
@[simp] theorem late_dct {t : Bool} {d : Nat} {es : List E} : E.late (E.dct t d es) = false := rfl
@[simp] theorem wpL_dct_ {t : Bool} {d : Nat} {es : List E} {es' : List E} : wp (evalEs G ((E.dct t d es) :: es') env) R ↔ wp (evalE G (E.dct t d es) env) (kHead G es' R) := wpL_cons rfl
@[simp] theorem late_bin {d : Nat} {op : Operator} {es : List E} : E.late (E.bin d op es) = false := rfl
@[simp] theorem wpL_bin_ {d : Nat} {op : Operator} {es : List E} {es' : List E} : wp (evalEs G ((E.bin d op es) :: es') env) R ↔ wp (evalE G (E.bin d op es) env) (kHead G es' R) := wpL_cons rfl
@[simp] theorem late_neg {a : E} : E.late (E.neg a) = false := rfl
@[simp] theorem wpL_neg_ {a : E} {es' : List E} : wp (evalEs G ((E.neg a) :: es') env) R ↔ wp (evalE G (E.neg a) env) (kHead G es' R) := wpL_cons rfl
@[simp] theorem late_not {a : E} : E.late (E.not a) = false := rfl
@[simp] theorem wpL_not_ {a : E} {es' : List E} : wp (evalEs G ((E.not a) :: es') env) R ↔ wp (evalE G (E.not a) env) (kHead G es' R) := wpL_cons rfl
@[simp] theorem late_and {a b : E} : E.late (E.and a b) = false := rfl
@[simp] theorem wpL_and_ {a b : E} {es' : List E} : wp (evalEs G ((E.and a b) :: es') env) R ↔ wp (evalE G (E.and a b) env) (kHead G es' R) := wpL_cons rfl
@[simp] theorem late_or {a b : E} : E.late (E.or a b) = false := rfl
@[simp] theorem wpL_or_ {a b : E} {es' : List E} : wp (evalEs G ((E.or a b) :: es') env) R ↔ wp (evalE G (E.or a b) env) (kHead G es' R) := wpL_cons rfl
@[simp] theorem late_ite {a b c : E} : E.late (E.ite a b c) = false := rfl
@[simp] theorem wpL_ite_ {a b c : E} {es' : List E} : wp (evalEs G ((E.ite a b c) :: es') env) R ↔ wp (evalE G (E.ite a b c) env) (kHead G es' R) := wpL_cons rfl
@[simp] theorem late_cmp {op : CmpOp} {es : List E} : E.late (E.cmp op es) = false := rfl
@[simp] theorem wpL_cmp_ {op : CmpOp} {es : List E} {es' : List E} : wp (evalEs G ((E.cmp op es) :: es') env) R ↔ wp (evalE G (E.cmp op es) env) (kHead G es' R) := wpL_cons rfl
@[simp] theorem late_inK {b : Bool} {e : E} {x : String} {vs : List PV} : E.late (E.inK b e x vs) = false := rfl
@[simp] theorem wpL_inK_ {b : Bool} {e : E} {x : String} {vs : List PV} {es' : List E} : wp (evalEs G ((E.inK b e x vs) :: es') env) R ↔ wp (evalE G (E.inK b e x vs) env) (kHead G es' R) := wpL_cons rfl
@[simp] theorem late_chn {o1 o2 : CmpOp} {a b c : E} : E.late (E.chn o1 o2 a b c) = false := rfl
@[simp] theorem wpL_chn_ {o1 o2 : CmpOp} {a b c : E} {es' : List E} : wp (evalEs G ((E.chn o1 o2 a b c) :: es') env) R ↔ wp (evalE G (E.chn o1 o2 a b c) env) (kHead G es' R) := wpL_cons rfl
@[simp] theorem late_item {es : List E} : E.late (E.item es) = false := rfl
@[simp] theorem wpL_item_ {es : List E} {es' : List E} : wp (evalEs G ((E.item es) :: es') env) R ↔ wp (evalE G (E.item es) env) (kHead G es' R) := wpL_cons rfl
@[simp] theorem late_slc {d : Nat} {a : E} {l h : Option E} : E.late (E.slc d a l h) = false := rfl
@[simp] theorem wpL_slc_ {d : Nat} {a : E} {l h : Option E} {es' : List E} : wp (evalEs G ((E.slc d a l h) :: es') env) R ↔ wp (evalE G (E.slc d a l h) env) (kHead G es' R) := wpL_cons rfl
@[simp] theorem late_rev {d : Nat} {a : E} : E.late (E.rev d a) = false := rfl
@[simp] theorem wpL_rev_ {d : Nat} {a : E} {es' : List E} : wp (evalEs G ((E.rev d a) :: es') env) R ↔ wp (evalE G (E.rev d a) env) (kHead G es' R) := wpL_cons rfl
@[simp] theorem late_call {f : Nat} {es : List E} {ix : List Nat} {b : Option Pr} : E.late (E.call f es ix b) = false := rfl
@[simp] theorem wpL_call_ {f : Nat} {es : List E} {ix : List Nat} {b : Option Pr} {es' : List E} : wp (evalEs G ((E.call f es ix b) :: es') env) R ↔ wp (evalE G (E.call f es ix b) env) (kHead G es' R) := wpL_cons rfl
@[simp] theorem late_prim {p : Prim} {d : Nat} {es : List E} : E.late (E.prim p d es) = false := rfl
@[simp] theorem wpL_prim_ {p : Prim} {d : Nat} {es : List E} {es' : List E} : wp (evalEs G ((E.prim p d es) :: es') env) R ↔ wp (evalE G (E.prim p d es) env) (kHead G es' R) := wpL_cons rfl
@[simp] theorem late_itr {p : Prim} {es : List E} : E.late (E.itr p es) = false := rfl
@[simp] theorem wpL_itr_ {p : Prim} {es : List E} {es' : List E} : wp (evalEs G ((E.itr p es) :: es') env) R ↔ wp (evalE G (E.itr p es) env) (kHead G es' R) := wpL_cons rfl
@[simp] theorem late_meth {m : Meth} {es : List E} : E.late (E.meth m es) = false := rfl
@[simp] theorem wpL_meth_ {m : Meth} {es : List E} {es' : List E} : wp (evalEs G ((E.meth m es) :: es') env) R ↔ wp (evalE G (E.meth m es) env) (kHead G es' R) := wpL_cons rfl
@[simp] theorem late_mut {m : Mut} {p : Pr} {ks es : List E} : E.late (E.mut m p ks es) = false := rfl
@[simp] theorem wpL_mut_ {m : Mut} {p : Pr} {ks es : List E} {es' : List E} : wp (evalEs G ((E.mut m p ks es) :: es') env) R ↔ wp (evalE G (E.mut m p ks es) env) (kHead G es' R) := wpL_cons rfl
@[simp] theorem late_lc {d : Nat} {e : E} {t : Tg} {it : E} {cs : List E} : E.late (E.lc d e t it cs) = false := rfl
@[simp] theorem wpL_lc_ {d : Nat} {e : E} {t : Tg} {it : E} {cs : List E} {es' : List E} : wp (evalEs G ((E.lc d e t it cs) :: es') env) R ↔ wp (evalE G (E.lc d e t it cs) env) (kHead G es' R) := wpL_cons rfl
@[simp] theorem late_isi {e : E} {ts : List Ty} : E.late (E.isi e ts) = false := rfl
@[simp] theorem wpL_isi_ {e : E} {ts : List Ty} {es' : List E} : wp (evalEs G ((E.isi e ts) :: es') env) R ↔ wp (evalE G (E.isi e ts) env) (kHead G es' R) := wpL_cons rfl
/-- a def's end -/
def kOut (d : FnA) (Q : PV × Option PV → Prop) (f : OI.Flow) : Prop := wp (flowOut d f) Q
theorem wp_fn {T : List FnA} {k f : Nat} {d : FnA} {vs : List PV} {Q : PV × Option PV → Prop} (h : T[f]? = some d) (hl : vs.length = d.np) : wp (callN T (k + 1) f vs) Q ↔ wp (evalSs (ctxN T k) d.body (d.start vs)) (kOut d Q) := by
  rw [callN_succ h, runFn_eq hl, wp_bind]
  exact Iff.rfl
@[simp] theorem kOut_ret {d : FnA} {Q : PV × Option PV → Prop} {v : PV} {e : OI.Env} (h : d.io = none) : kOut d Q (.ret v e) ↔ cleanB d.dr v = true ∧ Q (v, none) := by
  simp [kOut, flowOut, outOf, h]
@[simp] theorem kOut_next {d : FnA} {Q : PV × Option PV → Prop} {e : OI.Env} (h : d.io = none) : kOut d Q (.next e) ↔ Q (.non, none) := by
  simp [kOut, flowOut, outOf, h]
theorem kOut_retIo {d : FnA} {Q : PV × Option PV → Prop} {v : PV} {e : OI.Env} {j : Nat} (h : d.io = some j) : kOut d Q (.ret v e) ↔ wp (getV e j) fun u => cleanB d.dio u = true ∧ cleanB d.dr v = true ∧ Q (v, some u) := by
  simp [kOut, flowOut, outOf, h]
end
end OI
set_option maxRecDepth 100000
set_option maxHeartbeats 4000000
/-! OI55: the calculus, the other constructs. -/
namespace OI
open PySem
section
variable {G : Ctx} {env : OI.Env} {Q : OI.Flow → Prop} {P : PV × OI.Env → Prop} {R : List PV × OI.Env → Prop}
def kTup (P : PV × OI.Env → Prop) (r : List PV × OI.Env) : Prop := r.1.length ≤ 16777216 ∧ P (.tup r.1, r.2)
@[simp] theorem kTup_mk {vs : List PV} {e : OI.Env} : kTup P (vs, e) ↔ vs.length ≤ 16777216 ∧ P (.tup vs, e) := Iff.rfl
@[simp] theorem wpE_tup {d : Nat} {es : List E} : wp (evalE G (.tup d es) env) P ↔ wp (evalEs G es env) (kTup P) := by simp only [evalE, wp_bind, wp_need, wp_ok]; exact Iff.rfl
def kLst (P : PV × OI.Env → Prop) (r : List PV × OI.Env) : Prop := r.1.length ≤ 16777216 ∧ P (.lst r.1, r.2)
@[simp] theorem kLst_mk {vs : List PV} {e : OI.Env} : kLst P (vs, e) ↔ vs.length ≤ 16777216 ∧ P (.lst vs, e) := Iff.rfl
@[simp] theorem wpE_lst {d : Nat} {es : List E} : wp (evalE G (.lst d es) env) P ↔ wp (evalEs G es env) (kLst P) := by simp only [evalE, wp_bind, wp_need, wp_ok]; exact Iff.rfl
def kDct (t : Bool) (e : OI.Env) (P : PV × OI.Env → Prop) (q : List PV × List PV) : Prop := P (.dct t q.1 q.2, e)
@[simp] theorem kDct_mk {t : Bool} {e : OI.Env} {a b : List PV} : kDct t e P (a, b) ↔ P (.dct t a b, e) := Iff.rfl
def kDct1 (t : Bool) (P : PV × OI.Env → Prop) (r : List PV × OI.Env) : Prop := r.1.length ≤ 30 ∧ wp (dictP t r.1 [] []) (kDct t r.2 P)
@[simp] theorem kDct1_mk {t : Bool} {vs : List PV} {e : OI.Env} : kDct1 t P (vs, e) ↔ vs.length ≤ 30 ∧ wp (dictP t vs [] []) (kDct t e P) := Iff.rfl
@[simp] theorem wpE_dct {t : Bool} {d : Nat} {es : List E} : wp (evalE G (.dct t d es) env) P ↔ wp (evalEs G es env) (kDct1 t P) := by simp only [evalE, wp_bind, wp_need, wp_ok]; exact Iff.rfl
def kPrim (p : Prim) (P : PV × OI.Env → Prop) (r : List PV × OI.Env) : Prop := wp (primP p r.1) (kVal r.2 P)
@[simp] theorem kPrim_mk {p : Prim} {vs : List PV} {e : OI.Env} : kPrim p P (vs, e) ↔ wp (primP p vs) (kVal e P) := Iff.rfl
@[simp] theorem wpE_prim {p : Prim} {d : Nat} {es : List E} : wp (evalE G (.prim p d es) env) P ↔ wp (evalEs G es env) (kPrim p P) := by simp only [evalE, wp_bind, wp_ok]; exact Iff.rfl
def kItr (e : OI.Env) (P : PV × OI.Env → Prop) (v : List PV) : Prop := P (.it v, e)
@[simp] theorem kItr_mk {vs : List PV} {e : OI.Env} : kItr e P vs ↔ P (.it vs, e) := Iff.rfl
def kItr1 (p : Prim) (P : PV × OI.Env → Prop) (r : List PV × OI.Env) : Prop := wp (iterP p r.1) (kItr r.2 P)
@[simp] theorem kItr1_mk {p : Prim} {vs : List PV} {e : OI.Env} : kItr1 p P (vs, e) ↔ wp (iterP p vs) (kItr e P) := Iff.rfl
@[simp] theorem wpE_itr {p : Prim} {es : List E} : wp (evalE G (.itr p es) env) P ↔ wp (evalEs G es env) (kItr1 p P) := by simp only [evalE, wp_bind, wp_ok]; exact Iff.rfl
def kMeth (m : Meth) (P : PV × OI.Env → Prop) (r : List PV × OI.Env) : Prop := wp (methP m r.1) (kVal r.2 P)
@[simp] theorem kMeth_mk {m : Meth} {vs : List PV} {e : OI.Env} : kMeth m P (vs, e) ↔ wp (methP m vs) (kVal e P) := Iff.rfl
theorem wpE_meth {m : Meth} {es : List E} (h : wp (methPre m es env) fun _ => wp (evalEs G es env) (kMeth m P)) : wp (evalE G (.meth m es) env) P := by
  simp only [evalE, wp_bind]
  refine wp_mono h fun _ h => ?_
  have : wp (methA es (evalEs G es env)) (kMeth m P) := by
    unfold methA
    split
    · exact h
    · simpa using h
  exact wp_mono this fun r h => by simp only [wp_ok]; exact h
def kMethV (G : Ctx) (m : Meth) (es : List E) (env : OI.Env) (P : PV × OI.Env → Prop) (v : PV) : Prop := recvOk m v = true ∧ wp (evalEs G es env) (kMeth m P)
@[simp] theorem kMethV_mk {m : Meth} {es : List E} {v : PV} : kMethV G m es env P v ↔ recvOk m v = true ∧ wp (evalEs G es env) (kMeth m P) := Iff.rfl
@[simp] theorem wpE_methV {m : Meth} {i : Nat} {es : List E} : wp (evalE G (.meth m (.var i :: es)) env) P ↔ wp (getV env i) (kMethV G m (.var i :: es) env P) := by
  simp only [evalE, methPre, methA, wp_bind, wp_need, wp_ok]
  cases getV env i with
  | ok v => simp only [wp_ok, wp_bind, wp_need]; exact Iff.rfl
  | exc x => exact Iff.rfl
  | stuck => exact Iff.rfl
def kItem (P : PV × OI.Env → Prop) : List PV × OI.Env → Prop
  | ([a, b], e) => wp (itemP a b) (kVal e P)
  | _ => False
@[simp] theorem kItem_mk {a b : PV} {e : OI.Env} : kItem P ([a, b], e) ↔ wp (itemP a b) (kVal e P) := Iff.rfl
@[simp] theorem wpE_item {es : List E} : wp (evalE G (.item es) env) P ↔ wp (evalEs G es env) (kItem P) := by
  simp only [evalE, wp_bind]
  constructor
  · intro h; refine wp_mono h fun r h => ?_
    obtain ⟨vs, e⟩ := r
    match vs, h with
    | [a, b], h => simp only [wp_bind, wp_ok] at h; exact h
    | [], h => exact h.elim
    | [_], h => exact h.elim
    | _ :: _ :: _ :: _, h => exact h.elim
  · intro h; refine wp_mono h fun r h => ?_
    obtain ⟨vs, e⟩ := r
    match vs, h with
    | [a, b], h => simp only [wp_bind, wp_ok]; exact h
    | [], h => exact h.elim
    | [_], h => exact h.elim
    | _ :: _ :: _ :: _, h => exact h.elim
def kNot (e : OI.Env) (P : PV × OI.Env → Prop) (b : Bool) : Prop := P (.bl (!b), e)
@[simp] theorem kNot_mk {b : Bool} : kNot env P b ↔ P (.bl (!b), env) := Iff.rfl
def kNot1 (P : PV × OI.Env → Prop) (r : PV × OI.Env) : Prop := wp (truth r.1) (kNot r.2 P)
@[simp] theorem kNot1_mk {v : PV} {e : OI.Env} : kNot1 P (v, e) ↔ wp (truth v) (kNot e P) := Iff.rfl
@[simp] theorem wpE_not {a : E} : wp (evalE G (.not a) env) P ↔ wp (evalE G a env) (kNot1 P) := by simp only [evalE, wp_bind, wp_ok]; exact Iff.rfl
def kInK (b : Bool) (vs : List PV) (P : PV × OI.Env → Prop) (r : PV × OI.Env) : Prop := (shp0 r.1 = true ∧ vs.all shp0 = true) ∧ P (.bl (vs.any (eqP · r.1) != b), r.2)
@[simp] theorem kInK_mk {b : Bool} {vs : List PV} {v : PV} {e : OI.Env} : kInK b vs P (v, e) ↔ (shp0 v = true ∧ vs.all shp0 = true) ∧ P (.bl (vs.any (eqP · v) != b), e) := Iff.rfl
@[simp] theorem wpE_inK {b : Bool} {a : E} {x : String} {vs : List PV} : wp (evalE G (.inK b a x vs) env) P ↔ wp (evalE G a env) (kInK b vs P) := by simp only [evalE, wp_bind, wp_need, wp_ok]; exact Iff.rfl
/-! ### calls -/
def kCall (G : Ctx) (f : Nat) (ix : List Nat) (back : Option Pr) (P : PV × OI.Env → Prop) (r : List PV × OI.Env) : Prop := ∃ s ps, G.sig f = some s ∧ argsBy s.np ix r.1 s.dfl = some ps ∧ wp (G.run f ps) fun o => wp (writeBack back o.2 r.2) fun env => P (o.1, env)
theorem wpE_call {f : Nat} {es : List E} {ix : List Nat} {back : Option Pr} (h : wp (evalEs G es env) (kCall G f ix back P)) : wp (evalE G (.call f es ix back) env) P := by
  simp only [evalE, wp_bind]
  refine wp_mono h fun r ⟨s, ps, h1, h2, h3⟩ => ?_
  rw [h1]
  simp only [h2, wp_bind, wp_ok]
  exact h3
/-! ### loops -/
def kFor (G : Ctx) (t : Tg) (b : List OI.S) (Q : OI.Flow → Prop) (r : PV × OI.Env) : Prop := wp (itemsOf r.1) fun xs => wp (forR t (fun env => evalSs G b env) xs r.2) Q
@[simp] theorem kFor_mk {t : Tg} {b : List OI.S} {v : PV} {e : OI.Env} : kFor G t b Q (v, e) ↔ wp (itemsOf v) fun xs => wp (forR t (fun env => evalSs G b env) xs e) Q := Iff.rfl
@[simp] theorem wpS_for {ws : List (Nat × Gt)} {t : Tg} {it : E} {b : List OI.S} : wp (evalS G (.for_ ws t it b) env) Q ↔ wp (evalE G it env) (kFor G t b Q) := by simp only [evalS, wp_bind]; exact Iff.rfl
@[simp] theorem wpS_whl {ws : List (Nat × Gt)} {c : E} {b : List OI.S} : wp (evalS G (.whl ws c b) env) Q ↔ wp (whileR (fun env => (evalE G c env).bind fun r => (truth r.1).bind fun t => .ok (t, r.2)) (fun env => evalSs G b env) env) Q := by simp only [evalS]
/-! ### places -/
theorem wpE_mut {m : Mut} {p : Pr} {ks args : List E} (h : wp (evalKs G ks env) fun k => wp (readPath env p.x (p.ks ++ k)) fun c0 => isLst c0 = true ∧ wp (evalEs G args env) fun r => wp (readPath r.2 p.x (p.ks ++ k)) fun c => wp (mutP m c r.1) fun q => wp (writePath r.2 p.x (p.ks ++ k) q.1) fun env => P (q.2, env)) : wp (evalE G (.mut m p ks args) env) P := by
  simp only [evalE, wp_bind, wp_need, wp_ok]
  exact h
theorem wpS_set {p : Pr} {ks : List E} {e : E} (h : wp (evalE G e env) fun r => wp (evalKs G ks r.2) fun k => ∃ q, k.getLast? = some q ∧ wp (readPath r.2 p.x (p.ks ++ k.dropLast)) fun c => wp (setP c q r.1) fun c' => wp (writePath r.2 p.x (p.ks ++ k.dropLast) c') fun env => Q (.next env)) : wp (evalS G (.set p ks e) env) Q := by
  simp only [evalS, wp_bind]
  refine wp_mono h fun r h => wp_mono h fun k ⟨q, h1, h⟩ => ?_
  rw [h1]
  simp only [wp_bind, wp_ok]
  exact h
def kAug (i : Nat) (env : OI.Env) (Q : OI.Flow → Prop) (v : PV) : Prop := Q (.next (setV env i (some v)))
@[simp] theorem kAug_mk {i : Nat} {v : PV} : kAug i env Q v ↔ Q (.next (setV env i (some v))) := Iff.rfl
def kAug1 (op : Operator) (i : Nat) (a : PV) (Q : OI.Flow → Prop) (r : PV × OI.Env) : Prop := wp (augP op a r.1) (kAug i r.2 Q)
@[simp] theorem kAug1_mk {op : Operator} {i : Nat} {a v : PV} {e : OI.Env} : kAug1 op i a Q (v, e) ↔ wp (augP op a v) (kAug i e Q) := Iff.rfl
def kAug2 (G : Ctx) (op : Operator) (i : Nat) (e : E) (env : OI.Env) (Q : OI.Flow → Prop) (a : PV) : Prop := wp (evalE G e env) (kAug1 op i a Q)
@[simp] theorem kAug2_mk {op : Operator} {i : Nat} {e : E} {a : PV} : kAug2 G op i e env Q a ↔ wp (evalE G e env) (kAug1 op i a Q) := Iff.rfl
@[simp] theorem wpS_aug {op : Operator} {i : Nat} {e : E} : wp (evalS G (.aug i op e) env) Q ↔ wp (getV env i) (kAug2 G op i e env Q) := by simp only [evalS, wp_bind, wp_ok]; exact Iff.rfl
def kPar (is : List Nat) (Q : OI.Flow → Prop) (r : List PV × OI.Env) : Prop := Q (.next (setVs r.2 is r.1))
@[simp] theorem kPar_mk {is : List Nat} {vs : List PV} {e : OI.Env} : kPar is Q (vs, e) ↔ Q (.next (setVs e is vs)) := Iff.rfl
@[simp] theorem wpS_par {is : List Nat} {es : List E} : wp (evalS G (.par is es) env) Q ↔ wp (evalEs G es env) (kPar is Q) := by simp only [evalS, wp_bind, wp_ok]; exact Iff.rfl
theorem wpE_slc {d : Nat} {a : E} {lo hi : Option E} (h : wp (evalE G a env) fun r => wp (evalO G lo r.2) fun l => wp (evalO G hi l.2) fun u => wp (slcP r.1 l.1 u.1) fun v => P (v, u.2)) : wp (evalE G (.slc d a lo hi) env) P := by
  simp only [evalE, wp_bind, wp_ok]
  exact h
def kRev (P : PV × OI.Env → Prop) (r : PV × OI.Env) : Prop := wp (revP r.1) (kVal r.2 P)
@[simp] theorem kRev_mk {v : PV} {e : OI.Env} : kRev P (v, e) ↔ wp (revP v) (kVal e P) := Iff.rfl
@[simp] theorem wpE_rev {d : Nat} {a : E} : wp (evalE G (.rev d a) env) P ↔ wp (evalE G a env) (kRev P) := by simp only [evalE, wp_bind, wp_ok]; exact Iff.rfl
/-! ### comprehensions -/
theorem wp_comp {body : OI.Env → List PV → Res (List PV × OI.Env)} {t : Tg} {ws : List Nat} {Q : List PV × OI.Env → Prop} (I : List PV → OI.Env → List PV → Prop) : ∀ {xs : List PV} {env : OI.Env} {acc : List PV}, I xs env acc →
    (∀ x xs env acc, I (x :: xs) env acc → wp (storeT t x (wipeV ws env)) fun e => wp (body e acc) fun r => I xs r.2 r.1) → (∀ env acc, I [] env acc → Q (acc, env)) → wp (compLoop body t ws xs env acc) Q
  | [], env, acc, h, _, he => he env acc h
  | x :: xs, env, acc, h, hs, he => by
    unfold compLoop
    simp only [wp_bind]
    exact wp_mono (hs x xs env acc h) fun e h => wp_mono h fun r h => wp_comp I h hs he
end
end OI
set_option maxRecDepth 100000
set_option maxHeartbeats 4000000
/-! OI56: the calculus: changes at places, by named continuations. -/
namespace OI
open PySem
section
variable {G : Ctx} {env : OI.Env} {Q : OI.Flow → Prop} {P : PV × OI.Env → Prop} {R : List PV → Prop}
def kPut (v : PV) (P : PV × OI.Env → Prop) (e : OI.Env) : Prop := P (v, e)
@[simp] theorem kPut_mk {v : PV} {e : OI.Env} : kPut v P e ↔ P (v, e) := Iff.rfl
def kMut4 (e : OI.Env) (x : Nat) (ks : List PV) (P : PV × OI.Env → Prop) (q : PV × PV) : Prop := wp (writePath e x ks q.1) (kPut q.2 P)
@[simp] theorem kMut4_mk {e : OI.Env} {x : Nat} {ks : List PV} {c v : PV} : kMut4 e x ks P (c, v) ↔ wp (writePath e x ks c) (kPut v P) := Iff.rfl
def kMut3 (m : Mut) (x : Nat) (ks : List PV) (vs : List PV) (e : OI.Env) (P : PV × OI.Env → Prop) (c : PV) : Prop := wp (mutP m c vs) (kMut4 e x ks P)
@[simp] theorem kMut3_mk {m : Mut} {x : Nat} {ks vs : List PV} {e : OI.Env} {c : PV} : kMut3 m x ks vs e P c ↔ wp (mutP m c vs) (kMut4 e x ks P) := Iff.rfl
def kMut2 (m : Mut) (x : Nat) (ks : List PV) (P : PV × OI.Env → Prop) (r : List PV × OI.Env) : Prop := wp (readPath r.2 x ks) (kMut3 m x ks r.1 r.2 P)
@[simp] theorem kMut2_mk {m : Mut} {x : Nat} {ks vs : List PV} {e : OI.Env} : kMut2 m x ks P (vs, e) ↔ wp (readPath e x ks) (kMut3 m x ks vs e P) := Iff.rfl
def kMut1 (G : Ctx) (m : Mut) (x : Nat) (ks : List PV) (args : List E) (env : OI.Env) (P : PV × OI.Env → Prop) (c : PV) : Prop := isLst c = true ∧ wp (evalEs G args env) (kMut2 m x ks P)
@[simp] theorem kMut1_mk {m : Mut} {x : Nat} {ks : List PV} {args : List E} {c : PV} : kMut1 G m x ks args env P c ↔ isLst c = true ∧ wp (evalEs G args env) (kMut2 m x ks P) := Iff.rfl
def kMut0 (G : Ctx) (m : Mut) (p : Pr) (args : List E) (env : OI.Env) (P : PV × OI.Env → Prop) (k : List PV) : Prop := wp (readPath env p.x (p.ks ++ k)) (kMut1 G m p.x (p.ks ++ k) args env P)
@[simp] theorem kMut0_mk {m : Mut} {p : Pr} {args : List E} {k : List PV} : kMut0 G m p args env P k ↔ wp (readPath env p.x (p.ks ++ k)) (kMut1 G m p.x (p.ks ++ k) args env P) := Iff.rfl
@[simp] theorem wpE_mut' {m : Mut} {p : Pr} {ks args : List E} : wp (evalE G (.mut m p ks args) env) P ↔ wp (evalKs G ks env) (kMut0 G m p args env P) := by
  simp only [evalE, wp_bind, wp_need, wp_ok]; exact Iff.rfl
@[simp] theorem wpK_nil : wp (evalKs G [] env) R ↔ R [] := by simp [evalKs]
def kKs1 (v : PV) (R : List PV → Prop) (r : List PV) : Prop := R (v :: r)
@[simp] theorem kKs1_mk {v : PV} {r : List PV} : kKs1 v R r ↔ R (v :: r) := Iff.rfl
def kKs (G : Ctx) (es : List E) (env : OI.Env) (R : List PV → Prop) (r : PV × OI.Env) : Prop := wp (evalKs G es env) (kKs1 r.1 R)
@[simp] theorem kKs_mk {es : List E} {v : PV} {e : OI.Env} : kKs G es env R (v, e) ↔ wp (evalKs G es env) (kKs1 v R) := Iff.rfl
@[simp] theorem wpK_cons {e : E} {es : List E} : wp (evalKs G (e :: es) env) R ↔ wp (evalE G e env) (kKs G es env R) := by
  simp only [evalKs, wp_bind, wp_noExc, wp_ok]; exact Iff.rfl
def kSet2 (e : OI.Env) (x : Nat) (ks : List PV) (Q : OI.Flow → Prop) (c : PV) : Prop := wp (writePath e x ks c) (kNext Q)
@[simp] theorem kSet2_mk {e : OI.Env} {x : Nat} {ks : List PV} {c : PV} : kSet2 e x ks Q c ↔ wp (writePath e x ks c) (kNext Q) := Iff.rfl
def kSet1 (v : PV) (e : OI.Env) (x : Nat) (ks : List PV) (q : PV) (Q : OI.Flow → Prop) (c : PV) : Prop := wp (setP c q v) (kSet2 e x ks Q)
@[simp] theorem kSet1_mk {v c q : PV} {e : OI.Env} {x : Nat} {ks : List PV} : kSet1 v e x ks q Q c ↔ wp (setP c q v) (kSet2 e x ks Q) := Iff.rfl
def kSet0 (p : Pr) (v : PV) (e : OI.Env) (Q : OI.Flow → Prop) (k : List PV) : Prop := match k.getLast? with
  | none => False
  | some q => wp (readPath e p.x (p.ks ++ k.dropLast)) (kSet1 v e p.x (p.ks ++ k.dropLast) q Q)
@[simp] theorem kSet0_one {p : Pr} {v q : PV} {e : OI.Env} : kSet0 p v e Q [q] ↔ wp (readPath e p.x p.ks) (kSet1 v e p.x p.ks q Q) := by simp [kSet0]
@[simp] theorem kSet0_two {p : Pr} {v q1 q : PV} {e : OI.Env} : kSet0 p v e Q [q1, q] ↔ wp (readPath e p.x (p.ks ++ [q1])) (kSet1 v e p.x (p.ks ++ [q1]) q Q) := by simp [kSet0]
def kSet (G : Ctx) (p : Pr) (ks : List E) (Q : OI.Flow → Prop) (r : PV × OI.Env) : Prop := wp (evalKs G ks r.2) (kSet0 p r.1 r.2 Q)
@[simp] theorem kSet_mk {p : Pr} {ks : List E} {v : PV} {e : OI.Env} : kSet G p ks Q (v, e) ↔ wp (evalKs G ks e) (kSet0 p v e Q) := Iff.rfl
@[simp] theorem wpS_set' {p : Pr} {ks : List E} {e : E} : wp (evalS G (.set p ks e) env) Q ↔ wp (evalE G e env) (kSet G p ks Q) := by
  simp only [evalS, wp_bind]
  constructor
  · intro h; refine wp_mono h fun r h => wp_mono h fun k h => ?_
    unfold kSet0
    cases hk : k.getLast? with
    | none => rw [hk] at h; exact h.elim
    | some q => rw [hk] at h; simp only [wp_bind, wp_ok] at h; exact h
  · intro h; refine wp_mono h fun r h => wp_mono h fun k h => ?_
    unfold kSet0 at h
    cases hk : k.getLast? with
    | none => rw [hk] at h; exact h.elim
    | some q => rw [hk] at h; simp only [wp_bind, wp_ok]; exact h
end
end OI
set_option maxRecDepth 100000
set_option maxHeartbeats 4000000
/-! OI57: the calculus: isinstance, minus, comprehensions, calls. -/
namespace OI
open PySem
@[simp] theorem shp0_non : shp0 .non = true := rfl
@[simp] theorem shp0_bl {b : Bool} : shp0 (.bl b) = true := rfl
@[simp] theorem shp0_int {b : Int} : shp0 (.int b) = true := rfl
theorem okStr (s : String) : (Str.ofString s).cps.all (· < 0x110000) = true := by
  rw [PySem.Str.ofString_eq_toList]
  simp only [List.all_toArray', List.all_map, List.all_eq_true, Function.comp, decide_eq_true_eq]
  intro c _
  have := c.valid
  have h2 : c.toNat = c.val.toNat := rfl
  rcases this with h | h
  · have : c.val.toNat < 0xd800 := h
    omega
  · have : c.val.toNat < 0x110000 := h.2
    omega
@[simp] theorem shp0_lit {s : String} : shp0 (.str (Str.ofString s)) = true := okStr s
@[simp] theorem shp0_litP {s : String} : shp0 (litP s) = true := okStr s
@[simp] theorem cleanB_non {d : Nat} : cleanB d .non = true := by cases d <;> rfl
@[simp] theorem cleanB_bl {d : Nat} {b : Bool} : cleanB d (.bl b) = true := by cases d <;> rfl
@[simp] theorem cleanB_int {d : Nat} {b : Int} : cleanB d (.int b) = true := by cases d <;> rfl
@[simp] theorem cleanB_str {d : Nat} {b : Str} : cleanB d (.str b) = true := by cases d <;> rfl
section
variable {G : Ctx} {env : OI.Env} {Q : OI.Flow → Prop} {P : PV × OI.Env → Prop}
def isiP (ts : List Ty) : PV → Res Bool
  | .exc _ _ => .stuck
  | .it _ => .stuck
  | v => .ok (ts.any (isTy v))
@[simp] theorem isiP_non {ts : List Ty} : isiP ts .non = .ok (ts.any (isTy .non)) := rfl
@[simp] theorem isiP_bl {ts : List Ty} {b : Bool} : isiP ts (.bl b) = .ok (ts.any (isTy (.bl b))) := rfl
@[simp] theorem isiP_int {ts : List Ty} {b : Int} : isiP ts (.int b) = .ok (ts.any (isTy (.int b))) := rfl
@[simp] theorem isiP_str {ts : List Ty} {b : Str} : isiP ts (.str b) = .ok (ts.any (isTy (.str b))) := rfl
@[simp] theorem isiP_tup {ts : List Ty} {b : List PV} : isiP ts (.tup b) = .ok (ts.any (isTy (.tup b))) := rfl
@[simp] theorem isiP_lst {ts : List Ty} {b : List PV} : isiP ts (.lst b) = .ok (ts.any (isTy (.lst b))) := rfl
@[simp] theorem isiP_dct {ts : List Ty} {t : Bool} {a b : List PV} : isiP ts (.dct t a b) = .ok (ts.any (isTy (.dct t a b))) := rfl
def kIsi (ts : List Ty) (P : PV × OI.Env → Prop) (r : PV × OI.Env) : Prop := wp (isiP ts r.1) (kBl r.2 P)
@[simp] theorem kIsi_mk {ts : List Ty} {v : PV} {e : OI.Env} : kIsi ts P (v, e) ↔ wp (isiP ts v) (kBl e P) := Iff.rfl
@[simp] theorem wpE_isi {a : E} {ts : List Ty} : wp (evalE G (.isi a ts) env) P ↔ wp (evalE G a env) (kIsi ts P) := by
  simp only [evalE, wp_bind]
  constructor <;>
  · intro h; refine wp_mono h fun r h => ?_
    obtain ⟨v, e⟩ := r
    cases v <;> exact h
def negP : PV → Res PV
  | .int i => .ok (.int (-i))
  | _ => .stuck
@[simp] theorem negP_int {i : Int} : negP (.int i) = .ok (.int (-i)) := rfl
def kNeg (P : PV × OI.Env → Prop) (r : PV × OI.Env) : Prop := wp (negP r.1) (kVal r.2 P)
@[simp] theorem kNeg_mk {v : PV} {e : OI.Env} : kNeg P (v, e) ↔ wp (negP v) (kVal e P) := Iff.rfl
@[simp] theorem wpE_neg {a : E} : wp (evalE G (.neg a) env) P ↔ wp (evalE G a env) (kNeg P) := by
  simp only [evalE, wp_bind]
  constructor <;>
  · intro h; refine wp_mono h fun r h => ?_
    obtain ⟨v, e⟩ := r
    cases v <;> exact h
/-! chains -/
def kChn4 (env : OI.Env) (P : PV × OI.Env → Prop) (b : Bool) : Prop := P (.bl b, env)
@[simp] theorem kChn4_mk {e : OI.Env} {b : Bool} : kChn4 e P b ↔ P (.bl b, e) := Iff.rfl
def kChn3 (o2 : CmpOp) (v2 : PV) (P : PV × OI.Env → Prop) (r : PV × OI.Env) : Prop := wp (cmpP o2 v2 r.1) (kChn4 r.2 P)
@[simp] theorem kChn3_mk {o2 : CmpOp} {v2 v : PV} {e : OI.Env} : kChn3 o2 v2 P (v, e) ↔ wp (cmpP o2 v2 v) (kChn4 e P) := Iff.rfl
def kChn2 (G : Ctx) (o2 : CmpOp) (c : E) (v2 : PV) (env : OI.Env) (P : PV × OI.Env → Prop) (t : Bool) : Prop := (t = true → wp (evalE G c env) (kChn3 o2 v2 P)) ∧ (t = false → P (.bl false, env))
@[simp] theorem kChn2_true {o2 : CmpOp} {c : E} {v2 : PV} : kChn2 G o2 c v2 env P true ↔ wp (evalE G c env) (kChn3 o2 v2 P) := by simp [kChn2]
@[simp] theorem kChn2_false {o2 : CmpOp} {c : E} {v2 : PV} : kChn2 G o2 c v2 env P false ↔ P (.bl false, env) := by simp [kChn2]
def kChn1 (G : Ctx) (o1 o2 : CmpOp) (c : E) (v1 : PV) (P : PV × OI.Env → Prop) (r : PV × OI.Env) : Prop := wp (cmpP o1 v1 r.1) (kChn2 G o2 c r.1 r.2 P)
@[simp] theorem kChn1_mk {o1 o2 : CmpOp} {c : E} {v1 v : PV} {e : OI.Env} : kChn1 G o1 o2 c v1 P (v, e) ↔ wp (cmpP o1 v1 v) (kChn2 G o2 c v e P) := Iff.rfl
def kChn0 (G : Ctx) (o1 o2 : CmpOp) (b c : E) (P : PV × OI.Env → Prop) (r : PV × OI.Env) : Prop := wp (evalE G b r.2) (kChn1 G o1 o2 c r.1 P)
@[simp] theorem kChn0_mk {o1 o2 : CmpOp} {b c : E} {v : PV} {e : OI.Env} : kChn0 G o1 o2 b c P (v, e) ↔ wp (evalE G b e) (kChn1 G o1 o2 c v P) := Iff.rfl
@[simp] theorem wpE_chn {o1 o2 : CmpOp} {a b c : E} : wp (evalE G (.chn o1 o2 a b c) env) P ↔ wp (evalE G a env) (kChn0 G o1 o2 b c P) := by
  simp only [evalE, wp_bind]
  constructor
  · intro h; refine wp_mono h fun r h => wp_mono h fun q h => wp_mono h fun t h => ?_; cases t <;> simp at h ⊢ <;> exact h
  · intro h; refine wp_mono h fun r h => wp_mono h fun q h => wp_mono h fun t h => ?_; cases t <;> simp [kChn3] at h ⊢ <;> exact h
/-- list comprehensions: what is walked, then the turns -/
def kLc (G : Ctx) (elt : E) (t : Tg) (cs : List E) (P : PV × OI.Env → Prop) (r : PV × OI.Env) : Prop := wp (itemsOf r.1) fun xs =>
  wp (compLoop (fun env acc => (evalAll G cs env).bind fun c => if c.1 = true then (evalE G elt c.2).bind fun v => need (acc.length < 16777216) (.ok (acc ++ [v.1], v.2)) else .ok (acc, c.2)) t t.slots xs r.2 []) fun q => P (.lst q.1, restore r.2 t.slots q.2)
@[simp] theorem kLc_mk {elt : E} {t : Tg} {cs : List E} {v : PV} {e : OI.Env} : kLc G elt t cs P (v, e) ↔ wp (itemsOf v) fun xs =>
  wp (compLoop (fun env acc => (evalAll G cs env).bind fun c => if c.1 = true then (evalE G elt c.2).bind fun v => need (acc.length < 16777216) (.ok (acc ++ [v.1], v.2)) else .ok (acc, c.2)) t t.slots xs e []) fun q => P (.lst q.1, restore e t.slots q.2) := Iff.rfl
@[simp] theorem wpE_lc {d : Nat} {elt : E} {t : Tg} {it : E} {cs : List E} : wp (evalE G (.lc d elt t it cs) env) P ↔ wp (evalE G it env) (kLc G elt t cs P) := by
  simp only [evalE, wp_bind, wp_noExc, wp_ok]; exact Iff.rfl
/-- a comprehension: what stands behind each turn -/
theorem wp_lc {elt : E} {t : Tg} {cs : List E} {R : List PV × OI.Env → Prop} (I : List PV → OI.Env → List PV → Prop) {xs : List PV} {env : OI.Env} (h : I xs env [])
    (hs : ∀ x xs env acc, I (x :: xs) env acc → wp (storeT t x (wipeV t.slots env)) fun e => wp (evalAll G cs e) fun c => if c.1 = true then wp (evalE G elt c.2) fun v => acc.length < 16777216 ∧ I xs v.2 (acc ++ [v.1]) else I xs c.2 acc)
    (he : ∀ env acc, I [] env acc → R (acc, env)) : wp (compLoop (fun env acc => (evalAll G cs env).bind fun c => if c.1 = true then (evalE G elt c.2).bind fun v => need (acc.length < 16777216) (.ok (acc ++ [v.1], v.2)) else .ok (acc, c.2)) t t.slots xs env []) R := by
  refine wp_comp I h (fun x xs env acc h => ?_) he
  refine wp_mono (hs x xs env acc h) fun e h => ?_
  rw [wp_bind]
  refine wp_mono h fun c h => ?_
  split
  · rw [if_pos (by assumption)] at h
    rw [wp_bind]
    refine wp_mono h fun v h => ?_
    simp only [wp_need, wp_ok]
    exact h
  · rw [if_neg (by assumption)] at h
    exact h
def kAll2 (G : Ctx) (cs : List E) (env : OI.Env) (R : Bool × OI.Env → Prop) (t : Bool) : Prop := (t = true → wp (evalAll G cs env) R) ∧ (t = false → R (false, env))
@[simp] theorem kAll2_true {cs : List E} {R : Bool × OI.Env → Prop} : kAll2 G cs env R true ↔ wp (evalAll G cs env) R := by simp [kAll2]
@[simp] theorem kAll2_false {cs : List E} {R : Bool × OI.Env → Prop} : kAll2 G cs env R false ↔ R (false, env) := by simp [kAll2]
def kAll1 (G : Ctx) (cs : List E) (R : Bool × OI.Env → Prop) (r : PV × OI.Env) : Prop := wp (truth r.1) (kAll2 G cs r.2 R)
@[simp] theorem kAll1_mk {cs : List E} {R : Bool × OI.Env → Prop} {v : PV} {e : OI.Env} : kAll1 G cs R (v, e) ↔ wp (truth v) (kAll2 G cs e R) := Iff.rfl
@[simp] theorem wpA_nil {R : Bool × OI.Env → Prop} : wp (evalAll G [] env) R ↔ R (true, env) := by simp [evalAll]
@[simp] theorem wpA_cons {c : E} {cs : List E} {R : Bool × OI.Env → Prop} : wp (evalAll G (c :: cs) env) R ↔ wp (evalE G c env) (kAll1 G cs R) := by
  simp only [evalAll, wp_bind]
  constructor
  · intro h; refine wp_mono h fun r h => wp_mono h fun t h => ?_; cases t <;> simp at h ⊢ <;> exact h
  · intro h; refine wp_mono h fun r h => wp_mono h fun t h => ?_; cases t <;> simp at h ⊢ <;> exact h
@[simp] theorem itemP_last {xs : List PV} {v : PV} : itemP (.lst (xs ++ [v])) (.int (-1)) = .ok v := by
  have h : ixP (xs.length + 1) (-1) = some xs.length := by
    have h1 : ¬ (0 : Int) ≤ -1 := by omega
    have h2 : -((xs.length + 1 : Nat) : Int) ≤ -1 := by omega
    unfold ixP
    rw [if_neg h1, if_pos h2]
    congr 1
    omega
  simp [itemP, atP, h]
def kTs (ts : List Tg) (xs : List PV) (R : OI.Env → Prop) (e : OI.Env) : Prop := wp (storeT.storeTs ts xs e) R
@[simp] theorem kTs_mk {ts : List Tg} {xs : List PV} {R : OI.Env → Prop} {e : OI.Env} : kTs ts xs R e ↔ wp (storeT.storeTs ts xs e) R := Iff.rfl
@[simp] theorem wp_store_tp {ts : List Tg} {xs : List PV} {R : OI.Env → Prop} : wp (storeT (.tp ts) (.tup xs) env) R ↔ wp (storeT.storeTs ts xs env) R := by simp [storeT]
@[simp] theorem wp_store_tpL {ts : List Tg} {xs : List PV} {R : OI.Env → Prop} : wp (storeT (.tp ts) (.lst xs) env) R ↔ wp (storeT.storeTs ts xs env) R := by simp [storeT]
@[simp] theorem wp_storeTs_nil {R : OI.Env → Prop} : wp (storeT.storeTs [] [] env) R ↔ R env := by simp [storeT.storeTs]
@[simp] theorem wp_storeTs_cons {t : Tg} {ts : List Tg} {x : PV} {xs : List PV} {R : OI.Env → Prop} : wp (storeT.storeTs (t :: ts) (x :: xs) env) R ↔ wp (storeT t x env) (kTs ts xs R) := by
  simp only [storeT.storeTs, wp_bind]; exact Iff.rfl
/-- for x in range(a, b) -/
theorem wp_range {t : Tg} {b : OI.Env → Res OI.Flow} {P : OI.Flow → Prop} {lo hi : Int} (I : Nat → OI.Env → Prop) {env : OI.Env} (h : I 0 env)
    (hs : ∀ (i : Nat) (env : OI.Env), lo + (i : Int) < hi → I i env → wp (storeT t (.int (lo + (i : Int))) env) fun e => wp (b e) (turn (I (i + 1)) P)) (he : ∀ env, I (hi - lo).toNat env → P (.next env)) : wp (forR t b (rangeP lo hi) env) P := by
  refine wp_for (fun rest env => ∃ i : Nat, i ≤ (hi - lo).toNat ∧ rest = (rangeP lo hi).drop i ∧ I i env) ⟨0, by omega, rfl, h⟩ ?_ ?_
  · rintro x xs env ⟨i, hi1, hr, hI⟩
    have hlen : (rangeP lo hi).length = (hi - lo).toNat := by simp [rangeP]
    have hlt : i < (hi - lo).toNat := by
      rcases Nat.lt_or_ge i (hi - lo).toNat with h | h
      · exact h
      · rw [List.drop_eq_nil_of_le (by omega)] at hr
        cases hr
    rw [List.drop_eq_getElem_cons (by omega)] at hr
    injection hr with h1 h2
    have hx : x = .int (lo + (i : Int)) := by rw [h1]; simp [rangeP]
    rw [hx]
    refine wp_mono (hs i env (by omega) hI) fun e h => wp_mono h fun f h => ?_
    cases f with
    | next e => exact ⟨i + 1, by omega, h2, h⟩
    | cnt e => exact ⟨i + 1, by omega, h2, h⟩
    | brk e => exact h
    | ret v e => exact h
  · rintro env ⟨i, hi1, hr, hI⟩
    have hlen : (rangeP lo hi).length = (hi - lo).toNat := by simp [rangeP]
    have : i = (hi - lo).toNat := by
      rcases Nat.lt_or_ge i (hi - lo).toNat with h | h
      · have := congrArg List.length hr
        simp [hlen] at this
        omega
      · omega
    subst this
    exact he env hI
/-- a call in a program's context -/
theorem kCall_ctx {T : List FnA} {k f : Nat} {d : FnA} {ix : List Nat} {back : Option Pr} {P : PV × OI.Env → Prop} {vs ps : List PV} {e : OI.Env} (h : T[f]? = some d) (ha : argsBy d.np ix vs d.dfl = some ps)
    (hw : wp (callN T k f ps) fun o => wp (writeBack back o.2 e) fun env => P (o.1, env)) : kCall (ctxN T k) f ix back P (vs, e) :=
  ⟨d.sig, ps, by simp [ctxN, h], ha, hw⟩
end
@[simp] theorem itemP_tup0 {x0 : PV} {r : List PV} : itemP (.tup (x0 :: r)) (.int 0) = .ok x0 := by
  have h : ixP (r.length + 1) 0 = some 0 := by unfold ixP; rw [if_pos (by omega), if_pos (by omega)]; rfl
  simp [itemP, atP, h]
@[simp] theorem itemP_tup1 {x0 x1 : PV} {r : List PV} : itemP (.tup (x0 :: x1 :: r)) (.int 1) = .ok x1 := by
  have h : ixP (r.length + 2) 1 = some 1 := by unfold ixP; rw [if_pos (by omega), if_pos (by omega)]; rfl
  simp [itemP, atP, h]
@[simp] theorem itemP_tup2 {x0 x1 x2 : PV} {r : List PV} : itemP (.tup (x0 :: x1 :: x2 :: r)) (.int 2) = .ok x2 := by
  have h : ixP (r.length + 3) 2 = some 2 := by unfold ixP; rw [if_pos (by omega), if_pos (by omega)]; rfl
  simp [itemP, atP, h]
@[simp] theorem itemP_tup3 {x0 x1 x2 x3 : PV} {r : List PV} : itemP (.tup (x0 :: x1 :: x2 :: x3 :: r)) (.int 3) = .ok x3 := by
  have h : ixP (r.length + 4) 3 = some 3 := by unfold ixP; rw [if_pos (by omega), if_pos (by omega)]; rfl
  simp [itemP, atP, h]
@[simp] theorem itemP_tup4 {x0 x1 x2 x3 x4 : PV} {r : List PV} : itemP (.tup (x0 :: x1 :: x2 :: x3 :: x4 :: r)) (.int 4) = .ok x4 := by
  have h : ixP (r.length + 5) 4 = some 4 := by unfold ixP; rw [if_pos (by omega), if_pos (by omega)]; rfl
  simp [itemP, atP, h]
@[simp] theorem itemP_tup5 {x0 x1 x2 x3 x4 x5 : PV} {r : List PV} : itemP (.tup (x0 :: x1 :: x2 :: x3 :: x4 :: x5 :: r)) (.int 5) = .ok x5 := by
  have h : ixP (r.length + 6) 5 = some 5 := by unfold ixP; rw [if_pos (by omega), if_pos (by omega)]; rfl
  simp [itemP, atP, h]
@[simp] theorem itemP_tup6 {x0 x1 x2 x3 x4 x5 x6 : PV} {r : List PV} : itemP (.tup (x0 :: x1 :: x2 :: x3 :: x4 :: x5 :: x6 :: r)) (.int 6) = .ok x6 := by
  have h : ixP (r.length + 7) 6 = some 6 := by unfold ixP; rw [if_pos (by omega), if_pos (by omega)]; rfl
  simp [itemP, atP, h]
@[simp] theorem itemP_tup7 {x0 x1 x2 x3 x4 x5 x6 x7 : PV} {r : List PV} : itemP (.tup (x0 :: x1 :: x2 :: x3 :: x4 :: x5 :: x6 :: x7 :: r)) (.int 7) = .ok x7 := by
  have h : ixP (r.length + 8) 7 = some 7 := by unfold ixP; rw [if_pos (by omega), if_pos (by omega)]; rfl
  simp [itemP, atP, h]
@[simp] theorem itemP_tup8 {x0 x1 x2 x3 x4 x5 x6 x7 x8 : PV} {r : List PV} : itemP (.tup (x0 :: x1 :: x2 :: x3 :: x4 :: x5 :: x6 :: x7 :: x8 :: r)) (.int 8) = .ok x8 := by
  have h : ixP (r.length + 9) 8 = some 8 := by unfold ixP; rw [if_pos (by omega), if_pos (by omega)]; rfl
  simp [itemP, atP, h]
@[simp] theorem itemP_tup9 {x0 x1 x2 x3 x4 x5 x6 x7 x8 x9 : PV} {r : List PV} : itemP (.tup (x0 :: x1 :: x2 :: x3 :: x4 :: x5 :: x6 :: x7 :: x8 :: x9 :: r)) (.int 9) = .ok x9 := by
  have h : ixP (r.length + 10) 9 = some 9 := by unfold ixP; rw [if_pos (by omega), if_pos (by omega)]; rfl
  simp [itemP, atP, h]
@[simp] theorem itemP_lst0 {x0 : PV} {r : List PV} : itemP (.lst (x0 :: r)) (.int 0) = .ok x0 := by
  have h : ixP (r.length + 1) 0 = some 0 := by unfold ixP; rw [if_pos (by omega), if_pos (by omega)]; rfl
  simp [itemP, atP, h]
@[simp] theorem itemP_lst1 {x0 x1 : PV} {r : List PV} : itemP (.lst (x0 :: x1 :: r)) (.int 1) = .ok x1 := by
  have h : ixP (r.length + 2) 1 = some 1 := by unfold ixP; rw [if_pos (by omega), if_pos (by omega)]; rfl
  simp [itemP, atP, h]
@[simp] theorem itemP_lst2 {x0 x1 x2 : PV} {r : List PV} : itemP (.lst (x0 :: x1 :: x2 :: r)) (.int 2) = .ok x2 := by
  have h : ixP (r.length + 3) 2 = some 2 := by unfold ixP; rw [if_pos (by omega), if_pos (by omega)]; rfl
  simp [itemP, atP, h]
@[simp] theorem itemP_lst3 {x0 x1 x2 x3 : PV} {r : List PV} : itemP (.lst (x0 :: x1 :: x2 :: x3 :: r)) (.int 3) = .ok x3 := by
  have h : ixP (r.length + 4) 3 = some 3 := by unfold ixP; rw [if_pos (by omega), if_pos (by omega)]; rfl
  simp [itemP, atP, h]
@[simp] theorem itemP_lst4 {x0 x1 x2 x3 x4 : PV} {r : List PV} : itemP (.lst (x0 :: x1 :: x2 :: x3 :: x4 :: r)) (.int 4) = .ok x4 := by
  have h : ixP (r.length + 5) 4 = some 4 := by unfold ixP; rw [if_pos (by omega), if_pos (by omega)]; rfl
  simp [itemP, atP, h]
@[simp] theorem itemP_lst5 {x0 x1 x2 x3 x4 x5 : PV} {r : List PV} : itemP (.lst (x0 :: x1 :: x2 :: x3 :: x4 :: x5 :: r)) (.int 5) = .ok x5 := by
  have h : ixP (r.length + 6) 5 = some 5 := by unfold ixP; rw [if_pos (by omega), if_pos (by omega)]; rfl
  simp [itemP, atP, h]
@[simp] theorem itemP_lst6 {x0 x1 x2 x3 x4 x5 x6 : PV} {r : List PV} : itemP (.lst (x0 :: x1 :: x2 :: x3 :: x4 :: x5 :: x6 :: r)) (.int 6) = .ok x6 := by
  have h : ixP (r.length + 7) 6 = some 6 := by unfold ixP; rw [if_pos (by omega), if_pos (by omega)]; rfl
  simp [itemP, atP, h]
@[simp] theorem itemP_lst7 {x0 x1 x2 x3 x4 x5 x6 x7 : PV} {r : List PV} : itemP (.lst (x0 :: x1 :: x2 :: x3 :: x4 :: x5 :: x6 :: x7 :: r)) (.int 7) = .ok x7 := by
  have h : ixP (r.length + 8) 7 = some 7 := by unfold ixP; rw [if_pos (by omega), if_pos (by omega)]; rfl
  simp [itemP, atP, h]
@[simp] theorem itemP_lst8 {x0 x1 x2 x3 x4 x5 x6 x7 x8 : PV} {r : List PV} : itemP (.lst (x0 :: x1 :: x2 :: x3 :: x4 :: x5 :: x6 :: x7 :: x8 :: r)) (.int 8) = .ok x8 := by
  have h : ixP (r.length + 9) 8 = some 8 := by unfold ixP; rw [if_pos (by omega), if_pos (by omega)]; rfl
  simp [itemP, atP, h]
@[simp] theorem itemP_lst9 {x0 x1 x2 x3 x4 x5 x6 x7 x8 x9 : PV} {r : List PV} : itemP (.lst (x0 :: x1 :: x2 :: x3 :: x4 :: x5 :: x6 :: x7 :: x8 :: x9 :: r)) (.int 9) = .ok x9 := by
  have h : ixP (r.length + 10) 9 = some 9 := by unfold ixP; rw [if_pos (by omega), if_pos (by omega)]; rfl
  simp [itemP, atP, h]
theorem itemP_dctE {t : Bool} {ks vs : List PV} {k : PV} : itemP (.dct t ks vs) k = need (isKey t k = true) (match lookP k ks vs with | some v => .ok v | none => .stuck) := rfl
theorem wp_item_tup {xs : List PV} {r : Int} {R : PV → Prop} (h0 : 0 ≤ r) (h1 : r < xs.length) (h : ∀ (j : Nat) (x : PV), xs[j]? = some x → (j : Int) = r → R x) : wp (itemP (.tup xs) (.int r)) R := by
  obtain ⟨j, rfl⟩ := Int.eq_ofNat_of_zero_le h0
  have hj : j < xs.length := by omega
  have e : ixP xs.length (j : Int) = some j := by unfold ixP; rw [if_pos (by omega), if_pos h1]; rfl
  simp [itemP, atP, e, hj]
  exact h j _ (List.getElem?_eq_getElem hj) rfl
theorem wp_item_lst {xs : List PV} {r : Int} {R : PV → Prop} (h0 : 0 ≤ r) (h1 : r < xs.length) (h : ∀ (j : Nat) (x : PV), xs[j]? = some x → (j : Int) = r → R x) : wp (itemP (.lst xs) (.int r)) R := by
  obtain ⟨j, rfl⟩ := Int.eq_ofNat_of_zero_le h0
  have hj : j < xs.length := by omega
  have e : ixP xs.length (j : Int) = some j := by unfold ixP; rw [if_pos (by omega), if_pos h1]; rfl
  simp [itemP, atP, e, hj]
  exact h j _ (List.getElem?_eq_getElem hj) rfl
theorem wp_item_str {s : Str} {r : Int} {R : PV → Prop} (h0 : 0 ≤ r) (h1 : r < s.cps.toList.length) (hl : s.length ≤ 16777216) (h : ∀ c ∈ s.cps.toList, R (.str ⟨#[c]⟩)) : wp (itemP (.str s) (.int r)) R := by
  obtain ⟨j, rfl⟩ := Int.eq_ofNat_of_zero_le h0
  have hj : j < s.cps.toList.length := by omega
  have e : ixP s.cps.toList.length (j : Int) = some j := by unfold ixP; rw [if_pos (by omega), if_pos h1]; rfl
  have e2 : atP s.cps.toList (j : Int) = some s.cps.toList[j] := by
    unfold atP
    rw [e]
    exact List.getElem?_eq_getElem hj
  simp only [itemP, e2, wp_need, wp_ok]
  exact ⟨hl, h _ (List.getElem_mem hj)⟩
/-- where two ways meet -/
def kJ (J : OI.Env → Prop) (Q : OI.Flow → Prop) : OI.Flow → Prop
  | .next e => J e
  | f => Q f
@[simp] theorem kJ_next {J : OI.Env → Prop} {Q : OI.Flow → Prop} {e : OI.Env} : kJ J Q (.next e) ↔ J e := Iff.rfl
@[simp] theorem kJ_brk {J : OI.Env → Prop} {Q : OI.Flow → Prop} {e : OI.Env} : kJ J Q (.brk e) ↔ Q (.brk e) := Iff.rfl
@[simp] theorem kJ_cnt {J : OI.Env → Prop} {Q : OI.Flow → Prop} {e : OI.Env} : kJ J Q (.cnt e) ↔ Q (.cnt e) := Iff.rfl
@[simp] theorem kJ_ret {J : OI.Env → Prop} {Q : OI.Flow → Prop} {v : PV} {e : OI.Env} : kJ J Q (.ret v e) ↔ Q (.ret v e) := Iff.rfl
theorem kIf_join {G : Ctx} {a b : List OI.S} {e : OI.Env} {Q : OI.Flow → Prop} {c : Bool} (J : OI.Env → Prop) (h : kIf G a b e (kJ J Q) c) (hj : ∀ e, J e → Q (.next e)) : kIf G a b e Q c := by
  have m : ∀ f, kJ J Q f → Q f := fun f h => by cases f <;> first | exact hj _ h | exact h
  exact ⟨fun t => wp_mono (h.1 t) m, fun t => wp_mono (h.2 t) m⟩
theorem wpS_join {G : Ctx} {s : OI.S} {e : OI.Env} {Q : OI.Flow → Prop} (J : OI.Env → Prop) (h : wp (evalS G s e) (kJ J Q)) (hj : ∀ e, J e → Q (.next e)) : wp (evalS G s e) Q :=
  wp_mono h fun f h => by cases f <;> first | exact hj _ h | exact h
/-- where an expression's ways meet -/
theorem wpE_join {G : Ctx} {a : E} {e : OI.Env} {P : PV × OI.Env → Prop} (J : PV → OI.Env → Prop) (h : wp (evalE G a e) fun r => J r.1 r.2) (hj : ∀ v e, J v e → P (v, e)) : wp (evalE G a e) P :=
  wp_mono h fun r h => hj _ _ h
/-- [.. for x in range(a, b)] -/
theorem wp_lcr {G : Ctx} {elt : E} {t : Tg} {cs : List E} {R : List PV × OI.Env → Prop} {lo hi : Int} (I : Nat → OI.Env → List PV → Prop) {env : OI.Env} (h : I 0 env [])
    (hs : ∀ (i : Nat) (env : OI.Env) (acc : List PV), lo + (i : Int) < hi → I i env acc → wp (storeT t (.int (lo + (i : Int))) (wipeV t.slots env)) fun e => wp (evalAll G cs e) fun c => if c.1 = true then wp (evalE G elt c.2) fun v => acc.length < 16777216 ∧ I (i + 1) v.2 (acc ++ [v.1]) else I (i + 1) c.2 acc)
    (he : ∀ env acc, I (hi - lo).toNat env acc → R (acc, env)) : wp (compLoop (fun env acc => (evalAll G cs env).bind fun c => if c.1 = true then (evalE G elt c.2).bind fun v => need (acc.length < 16777216) (.ok (acc ++ [v.1], v.2)) else .ok (acc, c.2)) t t.slots (rangeP lo hi) env []) R := by
  have hlen : (rangeP lo hi).length = (hi - lo).toNat := by simp [rangeP]
  refine wp_lc (fun rest env acc => ∃ i : Nat, i ≤ (hi - lo).toNat ∧ rest = (rangeP lo hi).drop i ∧ I i env acc) ⟨0, by omega, rfl, h⟩ ?_ ?_
  · rintro x xs env acc ⟨i, hi1, hr, hI⟩
    have hlt : i < (hi - lo).toNat := by
      rcases Nat.lt_or_ge i (hi - lo).toNat with h | h
      · exact h
      · rw [List.drop_eq_nil_of_le (by omega)] at hr
        cases hr
    rw [List.drop_eq_getElem_cons (by omega)] at hr
    injection hr with h1 h2
    have hx : x = .int (lo + (i : Int)) := by rw [h1]; simp [rangeP]
    rw [hx]
    refine wp_mono (hs i env acc (by omega) hI) fun e h => wp_mono h fun c h => ?_
    split
    · rw [if_pos (by assumption)] at h
      exact wp_mono h fun v h => ⟨h.1, i + 1, by omega, h2, h.2⟩
    · rw [if_neg (by assumption)] at h
      exact ⟨i + 1, by omega, h2, h⟩
  · rintro env acc ⟨i, hi1, hr, hI⟩
    have : i = (hi - lo).toNat := by
      rcases Nat.lt_or_ge i (hi - lo).toNat with h | h
      · have := congrArg List.length hr
        simp [hlen] at this
        omega
      · omega
    subst this
    exact he env acc hI
@[simp] theorem strsOf_map : ∀ xs : List Str, strsOf (xs.map PV.str) = some xs
  | [] => rfl
  | x :: xs => by simp [strsOf, strsOf_map xs]
@[simp] theorem strsOf_comp {α : Type} (f : α → Str) (xs : List α) : strsOf (xs.map (PV.str ∘ f)) = some (xs.map f) := by
  rw [← List.map_map, strsOf_map]
section
variable {G : Ctx} {env : OI.Env} {P : PV × OI.Env → Prop}
def kSlc2 (v : PV) (lo : Option Int) (P : PV × OI.Env → Prop) (r : Option Int × OI.Env) : Prop := wp (slcP v lo r.1) (kVal r.2 P)
@[simp] theorem kSlc2_mk {v : PV} {lo hi : Option Int} {e : OI.Env} : kSlc2 v lo P (hi, e) ↔ wp (slcP v lo hi) (kVal e P) := Iff.rfl
def kSlc1 (G : Ctx) (hi : Option E) (v : PV) (P : PV × OI.Env → Prop) (r : Option Int × OI.Env) : Prop := wp (evalO G hi r.2) (kSlc2 v r.1 P)
@[simp] theorem kSlc1_mk {v : PV} {lo : Option Int} {hi : Option E} {e : OI.Env} : kSlc1 G hi v P (lo, e) ↔ wp (evalO G hi e) (kSlc2 v lo P) := Iff.rfl
def kSlc0 (G : Ctx) (lo hi : Option E) (P : PV × OI.Env → Prop) (r : PV × OI.Env) : Prop := wp (evalO G lo r.2) (kSlc1 G hi r.1 P)
@[simp] theorem kSlc0_mk {v : PV} {lo hi : Option E} {e : OI.Env} : kSlc0 G lo hi P (v, e) ↔ wp (evalO G lo e) (kSlc1 G hi v P) := Iff.rfl
@[simp] theorem wpE_slc' {d : Nat} {a : E} {lo hi : Option E} : wp (evalE G (.slc d a lo hi) env) P ↔ wp (evalE G a env) (kSlc0 G lo hi P) := by
  simp only [evalE, wp_bind, wp_ok]; exact Iff.rfl
def kO (R : Option Int × OI.Env → Prop) : PV × OI.Env → Prop
  | (.int i, e) => R (some i, e)
  | _ => False
@[simp] theorem kO_int {R : Option Int × OI.Env → Prop} {i : Int} {e : OI.Env} : kO R (.int i, e) ↔ R (some i, e) := Iff.rfl
@[simp] theorem wpO_none {R : Option Int × OI.Env → Prop} : wp (evalO G none env) R ↔ R (none, env) := by simp [evalO]
@[simp] theorem wpO_some {a : E} {R : Option Int × OI.Env → Prop} : wp (evalO G (some a) env) R ↔ wp (evalE G a env) (kO R) := by
  simp only [evalO, wp_bind]
  constructor <;>
  · intro h; refine wp_mono h fun r h => ?_
    obtain ⟨v, e⟩ := r
    cases v <;> exact h
theorem cutP_take {α : Type} {xs : List α} {k : Int} (h : 0 ≤ k) : cutP xs none (some k) = xs.take k.toNat := by
  have h1 : ¬ k < 0 := by omega
  simp only [cutP, clampP, if_neg h1, List.drop_zero, Nat.sub_zero]
  rcases Nat.le_total xs.length k.toNat with h | h
  · rw [Nat.min_eq_left h, List.take_of_length_le (Nat.le_refl _), List.take_of_length_le h]
  · rw [Nat.min_eq_right h]
theorem cutP_drop {α : Type} {xs : List α} {k : Int} (h : 0 ≤ k) : cutP xs (some k) none = xs.drop k.toNat := by
  have h1 : ¬ k < 0 := by omega
  simp only [cutP, clampP, if_neg h1]
  rcases Nat.le_total xs.length k.toNat with h | h
  · rw [Nat.min_eq_left h, List.drop_of_length_le h, List.drop_of_length_le (Nat.le_refl _)]
    simp
  · rw [Nat.min_eq_right h, List.take_of_length_le (by simp)]
theorem cutP_mid {α : Type} {xs : List α} {j k : Int} (h : 0 ≤ j) (h' : 0 ≤ k) : cutP xs (some j) (some k) = (xs.take k.toNat).drop j.toNat := by
  have h1 : ¬ k < 0 := by omega
  have h2 : ¬ j < 0 := by omega
  simp only [cutP, clampP, if_neg h1, if_neg h2]
  apply List.ext_getElem?
  intro i
  simp only [List.getElem?_take, List.getElem?_drop]
  rcases Nat.le_total xs.length k.toNat with h | h <;> rcases Nat.le_total xs.length j.toNat with h' | h' <;> simp only [Nat.min_eq_left, Nat.min_eq_right, h, h']
  all_goals
    split <;> split <;> first | rfl | omega | skip
  all_goals
    first
      | exact List.getElem?_eq_none (by omega)
      | exact (List.getElem?_eq_none (by omega)).symm
      | (rw [List.getElem?_eq_none (by omega), List.getElem?_eq_none (by omega)])
      | omega
end
@[simp] theorem any_str (told : List Str) (s : Str) : told.any ((fun x => eqP x (.str s)) ∘ PV.str) = decide (s ∈ told) := by
  induction told with
  | nil => rfl
  | cons t told ih =>
    rw [List.any_cons, ih]
    simp only [Function.comp, eqP]
    by_cases h : t = s
    · subst h; simp
    · have h1 : (t == s) = false := beq_eq_false_iff_ne.mpr h
      have h2 : (s ∈ t :: told) = (s ∈ told) := by simp [Ne.symm h]
      simp [h1, h2]
@[simp] theorem any_int (told : List Int) (s : Int) : told.any ((fun x => eqP x (.int s)) ∘ PV.int) = decide (s ∈ told) := by
  induction told with
  | nil => rfl
  | cons t told ih =>
    rw [List.any_cons, ih]
    simp only [Function.comp, eqP]
    by_cases h : t = s
    · subst h; simp
    · have h1 : (t == s) = false := beq_eq_false_iff_ne.mpr h
      have h2 : (s ∈ t :: told) = (s ∈ told) := by simp [Ne.symm h]
      simp [h1, h2]
theorem ixP_nat {n j : Nat} (h : j < n) : ixP n (j : Int) = some j := by
  unfold ixP
  rw [if_pos (by omega), if_pos (by omega)]
  rfl
theorem ixP_suc {n j : Nat} (h : j + 1 < n) : ixP n ((j : Int) + 1) = some (j + 1) := ixP_nat (j := j + 1) h
theorem itemP_mid {xs ys : List PV} {v : PV} {j : Nat} (h : xs.length = j) : itemP (.lst (xs ++ v :: ys)) (.int j) = .ok v := by
  subst h
  simp [itemP, atP, ixP_nat (show xs.length < xs.length + (ys.length + 1) by omega)]
theorem popP_mid {xs ys : List PV} {a b : PV} {j : Nat} (h : xs.length = j) (hs : j < 2 ^ 61) : mutP .pop (.lst (xs ++ a :: b :: ys)) [.int ((j : Int) + 1)] = .ok (.lst (xs ++ a :: ys), b) := by
  subst h
  have h1 : ixP (xs.length + (ys.length + 1 + 1)) ((xs.length : Int) + 1) = some (xs.length + 1) := ixP_suc (by omega)
  have h2 : (xs ++ a :: b :: ys)[xs.length + 1]? = some b := by simp
  have h3 : smallP ((xs.length : Int) + 1) := by constructor <;> omega
  have h4 : (xs ++ a :: b :: ys).eraseIdx (xs.length + 1) = xs ++ a :: ys := by
    rw [List.eraseIdx_append_of_length_le (by omega)]
    simp
  simp [mutP, h1, h2, h3, h4, need]
theorem setP_mid {xs ys : List PV} {a v : PV} {j : Nat} (h : xs.length = j) : setP (.lst (xs ++ a :: ys)) (.int j) v = .ok (.lst (xs ++ v :: ys)) := by
  subst h
  simp [setP, ixP_nat (show xs.length < xs.length + (ys.length + 1) by omega)]
theorem mid_of {α : Type} {l : List α} {j : Nat} (h : j + 1 < l.length) : ∃ l1 a b l2, l = l1 ++ a :: b :: l2 ∧ l1.length = j := by
  refine ⟨l.take j, l[j], l[j + 1], l.drop (j + 2), ?_, by simp; omega⟩
  rw [← List.drop_eq_getElem_cons, ← List.drop_eq_getElem_cons, List.take_append_drop]
theorem mid1_of {α : Type} {l : List α} {j : Nat} (h : j < l.length) : ∃ l1 a l2, l = l1 ++ a :: l2 ∧ l1.length = j := by
  refine ⟨l.take j, l[j], l.drop (j + 1), ?_, by simp; omega⟩
  rw [← List.drop_eq_getElem_cons, List.take_append_drop]
theorem mutP_append {xs : List PV} {v : PV} : mutP .append (.lst xs) [v] = need (xs.length < 16777216) (.ok (.lst (xs ++ [v]), .non)) := rfl
theorem mutP_extend {xs ys : List PV} : mutP .extend (.lst xs) [.lst ys] = need (xs.length + ys.length ≤ 16777216) (.ok (.lst (xs ++ ys), .non)) := rfl
theorem mutP_pop {xs : List PV} : mutP .pop (.lst xs) [] = match xs.getLast? with | some v => .ok (.lst xs.dropLast, v) | none => .stuck := rfl
theorem mutP_reverse {xs : List PV} : mutP .reverse (.lst xs) [] = .ok (.lst xs.reverse, .non) := rfl
theorem setP_dct {t : Bool} {ks vs : List PV} {k v : PV} : setP (.dct t ks vs) k v = need (isKey t k = true ∧ ks.length < 16777216) (.ok (.dct t (putP k v ks vs).1 (putP k v ks vs).2)) := rfl
end OI
set_option maxRecDepth 100000
set_option maxHeartbeats 0
namespace K07
open PySem OI
def b_laid_label : List S := [
  .asg (.nm 2) (.lst 1 [(.item [(.var 1), (.int 0)])]),
  .for_ [(3, (.t (.d 0)))] (.nm 3) (.slc 1 (.var 1) (some (.int 1)) none) [
    .ite [] (.cmp .NotIn [(.var 3), (.var 0)]) [
      .ret .non] [],
    .expr (.mut .append { x := 2 } [] [(.prim .str 0 [(.item [(.var 0), (.var 3)])])])],
  .ret (.meth .join [(.str ""), (.var 2)])]
def f_laid_label : FnA where
  name := "laid_label"
  ns := ["worths", "label", "told", "name"]
  np := 2
  io := none
  dio := 0
  dr := 0
  gl := []
  body := b_laid_label
@[simp] theorem f_laid_label_body : f_laid_label.body = b_laid_label := rfl
@[simp] theorem f_laid_label_io : f_laid_label.io = none := rfl
@[simp] theorem f_laid_label_dio : f_laid_label.dio = 0 := rfl
@[simp] theorem f_laid_label_dr : f_laid_label.dr = 0 := rfl
theorem f_laid_label_start (vs : List PV) : f_laid_label.start vs = vs.map some ++ List.replicate (4 - vs.length) none := rfl
def b_tick_worth : List S := [
  .asg (.nm 3) (.meth .get [(.var 1), (.call 0 [(.var 0), (.item [(.var 2), (.int 1)])] [0, 1] none)]),
  .ite [] (.cmp .Is [(.var 3), .non]) [
    .ret .non] [],
  .ret (.ite (.cmp .Eq [(.item [(.var 2), (.int 0)]), (.str "begin")]) (.item [(.var 3), (.int 0)]) (.item [(.var 3), (.int 1)]))]
def f_tick_worth : FnA where
  name := "tick_worth"
  ns := ["worths", "ends", "expression", "span"]
  np := 3
  io := none
  dio := 0
  dr := 0
  gl := []
  body := b_tick_worth
@[simp] theorem f_tick_worth_body : f_tick_worth.body = b_tick_worth := rfl
@[simp] theorem f_tick_worth_io : f_tick_worth.io = none := rfl
@[simp] theorem f_tick_worth_dio : f_tick_worth.dio = 0 := rfl
@[simp] theorem f_tick_worth_dr : f_tick_worth.dr = 0 := rfl
theorem f_tick_worth_start (vs : List PV) : f_tick_worth.start vs = vs.map some ++ List.replicate (4 - vs.length) none := rfl
def b_atom_worth : List S := [
  .ite [] (.cmp .Eq [(.item [(.var 2), (.int 0)]), (.str "number")]) [
    .ret (.item [(.var 2), (.int 1)])] [],
  .ite [] (.inK false (.item [(.var 2), (.int 0)]) "LABEL_WORDS" [(.str (PySem.Str.ofString "begin")), (.str (PySem.Str.ofString "after"))]) [
    .ret (.call 1 [(.var 0), (.var 1), (.var 2)] [0, 1, 2] none)] [],
  .ret (.meth .get [(.var 0), (.item [(.var 2), (.int 1)])])]
def f_atom_worth : FnA where
  name := "atom_worth"
  ns := ["worths", "ends", "expression"]
  np := 3
  io := none
  dio := 0
  dr := 0
  gl := [("LABEL_WORDS", (.tup [(.str (PySem.Str.ofString "begin")), (.str (PySem.Str.ofString "after"))]))]
  body := b_atom_worth
@[simp] theorem f_atom_worth_body : f_atom_worth.body = b_atom_worth := rfl
@[simp] theorem f_atom_worth_io : f_atom_worth.io = none := rfl
@[simp] theorem f_atom_worth_dio : f_atom_worth.dio = 0 := rfl
@[simp] theorem f_atom_worth_dr : f_atom_worth.dr = 0 := rfl
theorem f_atom_worth_start (vs : List PV) : f_atom_worth.start vs = vs.map some ++ List.replicate (3 - vs.length) none := rfl
def b_joined_worth : List S := [
  .ite [] (.or (.cmp .Is [(.var 1), .non]) (.cmp .Is [(.var 2), .non])) [
    .ret .non] [],
  .ite [] (.cmp .Eq [(.var 0), (.str "*")]) [
    .ret (.bin 1 .Mult [(.var 1), (.var 2)])] [],
  .ret (.ite (.cmp .Eq [(.var 0), (.str "+")]) (.bin 1 .Add [(.var 1), (.var 2)]) (.bin 1 .Sub [(.var 1), (.var 2)]))]
def f_joined_worth : FnA where
  name := "joined_worth"
  ns := ["sign", "one", "other"]
  np := 3
  io := none
  dio := 0
  dr := 0
  gl := []
  body := b_joined_worth
@[simp] theorem f_joined_worth_body : f_joined_worth.body = b_joined_worth := rfl
@[simp] theorem f_joined_worth_io : f_joined_worth.io = none := rfl
@[simp] theorem f_joined_worth_dio : f_joined_worth.dio = 0 := rfl
@[simp] theorem f_joined_worth_dr : f_joined_worth.dr = 0 := rfl
theorem f_joined_worth_start (vs : List PV) : f_joined_worth.start vs = vs.map some ++ List.replicate (3 - vs.length) none := rfl
def b_all_worths : List S := [
  .par [3, 4, 5] [(.lst 1 [(.var 2)]), (.lst 1 []), (.lst 1 [])],
  .whl [(6, (.t (.d 0))), (7, (.t (.d 0)))] (.var 3) [
    .asg (.nm 6) (.mut .pop { x := 3 } [] []),
    .ite [] (.isi (.var 6) [.str]) [
      .asg (.nm 7) (.mut .pop { x := 4 } [] []),
      .expr (.mut .append { x := 4 } [] [(.call 3 [(.var 6), (.mut .pop { x := 4 } [] []), (.var 7)] [0, 1, 2] none)]),
      .expr (.mut .append { x := 5 } [] [(.item [(.var 4), (.neg (.int 1))])])] [
      .ite [] (.cmp .Eq [(.prim .len 0 [(.var 6)]), (.int 3)]) [
        .expr (.mut .extend { x := 3 } [] [(.lst 1 [(.item [(.var 6), (.int 0)]), (.item [(.var 6), (.int 2)]), (.item [(.var 6), (.int 1)])])])] [
        .expr (.mut .append { x := 4 } [] [(.call 2 [(.var 0), (.var 1), (.var 6)] [0, 1, 2] none)]),
        .expr (.mut .append { x := 5 } [] [(.item [(.var 4), (.neg (.int 1))])])]]],
  .ret (.mv 5)]
def f_all_worths : FnA where
  name := "all_worths"
  ns := ["worths", "ends", "expression", "waiting", "found", "told", "thing", "other"]
  np := 3
  io := none
  dio := 0
  dr := 1
  gl := []
  body := b_all_worths
@[simp] theorem f_all_worths_body : f_all_worths.body = b_all_worths := rfl
@[simp] theorem f_all_worths_io : f_all_worths.io = none := rfl
@[simp] theorem f_all_worths_dio : f_all_worths.dio = 0 := rfl
@[simp] theorem f_all_worths_dr : f_all_worths.dr = 1 := rfl
theorem f_all_worths_start (vs : List PV) : f_all_worths.start vs = vs.map some ++ List.replicate (8 - vs.length) none := rfl
def b_worth_of : List S := [
  .ret (.item [(.call 4 [(.var 0), (.var 1), (.var 2)] [0, 1, 2] none), (.neg (.int 1))])]
def f_worth_of : FnA where
  name := "worth_of"
  ns := ["worths", "ends", "expression"]
  np := 3
  io := none
  dio := 0
  dr := 0
  gl := []
  body := b_worth_of
@[simp] theorem f_worth_of_body : f_worth_of.body = b_worth_of := rfl
@[simp] theorem f_worth_of_io : f_worth_of.io = none := rfl
@[simp] theorem f_worth_of_dio : f_worth_of.dio = 0 := rfl
@[simp] theorem f_worth_of_dr : f_worth_of.dr = 0 := rfl
theorem f_worth_of_start (vs : List PV) : f_worth_of.start vs = vs.map some ++ List.replicate (3 - vs.length) none := rfl
def b__law_pot : List S := [
  .asg (.nm 1) (.lst 1 []),
  .asg (.nm 2) (.int 730033),
  .for_ [(3, (.t (.d 0)))] (.nm 3) (.slc 1 (.var 0) none (some (.int 60))) [
    .asg (.nm 4) (.bin 0 .Mod [(.prim .abs 0 [(.prim .int 0 [(.var 3)])]), (.bin 0 .LShift [(.int 1), (.int 1700)])]),
    .asg (.nm 2) (.bin 0 .Mod [(.prim .int 0 [(.bin 0 .Add [(.bin 0 .Add [(.bin 0 .Mult [(.var 2), (.int 44497)]), (.bin 0 .Mod [(.var 4), (.int 2147480459)])]), (.int 71)])]), (.int 4294967111)]),
    .ite [] (.cmp .GtE [(.var 4), (.bin 0 .Pow [(.int 10), (.int 18)])]) [
      .expr (.mut .append { x := 1 } [] [(.var 4)])] []],
  .ret (.lst 2 [(.mv 1), (.var 2), (.int 0)])]
def f__law_pot : FnA where
  name := "_law_pot"
  ns := ["script", "great", "churned", "cell", "size"]
  np := 1
  io := none
  dio := 0
  dr := 2
  gl := []
  body := b__law_pot
@[simp] theorem f__law_pot_body : f__law_pot.body = b__law_pot := rfl
@[simp] theorem f__law_pot_io : f__law_pot.io = none := rfl
@[simp] theorem f__law_pot_dio : f__law_pot.dio = 0 := rfl
@[simp] theorem f__law_pot_dr : f__law_pot.dr = 2 := rfl
theorem f__law_pot_start (vs : List PV) : f__law_pot.start vs = vs.map some ++ List.replicate (5 - vs.length) none := rfl
def b__law_ladle : List S := [
  .ite [] (.cmp .Gt [(.prim .len 0 [(.item [(.var 0), (.int 0)])]), (.int 0)]) [
    .asg (.nm 2) (.prim .int 0 [(.mut .pop { x := 0 } [(.int 0)] [])]),
    .ite [] (.cmp .GtE [(.var 2), (.var 1)]) [
      .expr (.mut .append { x := 0 } [(.int 0)] [(.bin 1 .FloorDiv [(.var 2), (.var 1)])])] [],
    .ret (.bin 1 .Mod [(.var 2), (.var 1)])] [],
  .set { x := 0 } [(.int 2)] (.bin 1 .Add [(.item [(.var 0), (.int 2)]), (.int 1)]),
  .set { x := 0 } [(.int 1)] (.bin 0 .Mod [(.prim .int 0 [(.bin 1 .Add [(.bin 1 .Add [(.bin 1 .Mult [(.item [(.var 0), (.int 1)]), (.int 42013)]), (.bin 1 .Mult [(.item [(.var 0), (.int 2)]), (.int 6007)])]), (.int 5)])]), (.int 4294967111)]),
  .ret (.bin 1 .Mod [(.prim .int 0 [(.bin 1 .FloorDiv [(.item [(.var 0), (.int 1)]), (.int 1151)])]), (.var 1)])]
def f__law_ladle : FnA where
  name := "_law_ladle"
  ns := ["pot", "many", "size"]
  np := 2
  io := some 0
  dio := 2
  dr := 0
  gl := []
  body := b__law_ladle
@[simp] theorem f__law_ladle_body : f__law_ladle.body = b__law_ladle := rfl
@[simp] theorem f__law_ladle_io : f__law_ladle.io = some 0 := rfl
@[simp] theorem f__law_ladle_dio : f__law_ladle.dio = 2 := rfl
@[simp] theorem f__law_ladle_dr : f__law_ladle.dr = 0 := rfl
theorem f__law_ladle_start (vs : List PV) : f__law_ladle.start vs = vs.map some ++ List.replicate (3 - vs.length) none := rfl
def b__law_same : List S := [
  .asg (.nm 2) (.lst 1 [(.tup 0 [(.var 0), (.var 1)])]),
  .whl [(3, (.t (.d 0))), (4, (.t (.d 0)))] (.cmp .Gt [(.prim .len 0 [(.var 2)]), (.int 0)]) [
    .asg (.tp [(.nm 3), (.nm 4)]) (.mut .pop { x := 2 } [] []),
    .ite [] (.cmp .Is [(.var 4), .non]) [
      .ite [] (.cmp .IsNot [(.var 3), .non]) [
        .ret (.bl false)] []] [
      .ite [] (.isi (.var 4) [.bool]) [
        .ite [] (.or (.not (.isi (.var 3) [.bool])) (.cmp .NotEq [(.var 3), (.var 4)])) [
          .ret (.bl false)] []] [
        .ite [] (.isi (.var 4) [.int]) [
          .ite [] (.or (.not (.isi (.var 3) [.int])) (.or (.isi (.var 3) [.bool]) (.cmp .NotEq [(.var 3), (.var 4)]))) [
            .ret (.bl false)] []] [
          .ite [] (.isi (.var 4) [.str]) [
            .ite [] (.or (.not (.isi (.var 3) [.str])) (.cmp .NotEq [(.var 3), (.var 4)])) [
              .ret (.bl false)] []] [
            .ite [] (.or (.not (.isi (.var 3) [.tuple])) (.or (.not (.isi (.var 4) [.tuple])) (.cmp .NotEq [(.prim .len 0 [(.var 3)]), (.prim .len 0 [(.var 4)])]))) [
              .ret (.bl false)] [
              .for_ [] (.nm 5) (.itr .range [(.prim .len 0 [(.var 4)])]) [
                .expr (.mut .append { x := 2 } [] [(.tup 0 [(.item [(.var 3), (.var 5)]), (.item [(.var 4), (.var 5)])])])]]]]]]],
  .ret (.bl true)]
def f__law_same : FnA where
  name := "_law_same"
  ns := ["told", "due", "left", "one", "other", "at"]
  np := 2
  io := none
  dio := 0
  dr := 0
  gl := []
  body := b__law_same
@[simp] theorem f__law_same_body : f__law_same.body = b__law_same := rfl
@[simp] theorem f__law_same_io : f__law_same.io = none := rfl
@[simp] theorem f__law_same_dio : f__law_same.dio = 0 := rfl
@[simp] theorem f__law_same_dr : f__law_same.dr = 0 := rfl
theorem f__law_same_start (vs : List PV) : f__law_same.start vs = vs.map some ++ List.replicate (6 - vs.length) none := rfl
def b__law_kept : List S := [
  .ret (.tup 0 [(.str "after"), (.str "apart"), (.str "at"), (.str "begin"), (.str "by"), (.str "cranes"), (.str "end"), (.str "for"), (.str "from"), (.str "number"), (.str "order"), (.str "place"), (.str "post"), (.str "rail"), (.str "repeat"), (.str "speed"), (.str "ticks"), (.str "time"), (.str "to")])]
def f__law_kept : FnA where
  name := "_law_kept"
  ns := []
  np := 0
  io := none
  dio := 0
  dr := 0
  gl := []
  body := b__law_kept
@[simp] theorem f__law_kept_body : f__law_kept.body = b__law_kept := rfl
@[simp] theorem f__law_kept_io : f__law_kept.io = none := rfl
@[simp] theorem f__law_kept_dio : f__law_kept.dio = 0 := rfl
@[simp] theorem f__law_kept_dr : f__law_kept.dr = 0 := rfl
theorem f__law_kept_start (vs : List PV) : f__law_kept.start vs = vs.map some ++ List.replicate (0 - vs.length) none := rfl
def b__law_names_1 : List S := [
  .ret (.mv 2)]
def b__law_names_2 : List S := [
  .ite [(4, (.t (.d 0)))] (.and (.cmp .NotIn [(.var 4), (.var 2)]) (.cmp .NotIn [(.var 4), (.call 9 [] [] none)])) [
  .expr (.mut .append { x := 2 } [] [(.fz 4 (.var 4))])] [
  .ite [] (.cmp .NotIn [(.bin 0 .Add [(.str "n"), (.prim .str 0 [(.prim .len 0 [(.var 2)])])]), (.var 2)]) [
  .expr (.mut .append { x := 2 } [] [(.bin 0 .Add [(.str "n"), (.prim .str 0 [(.prim .len 0 [(.var 2)])])])])] []]]
def b__law_names_3 : List S := 
  (.asg (.nm 3) (.item [(.tup 0 [(.int 1), (.int 2), (.int 2), (.int 3), (.int 8)]), (.call 7 [(.var 0), (.int 5)] [0, 1] (some { x := 0 }))])) ::
  (.asg (.nm 4) (.meth .join [(.str ""), (.lc 1 (.item [(.str "abcdefghijklmnopqrstuvwxyz"), (.call 7 [(.var 0), (.int 26)] [0, 1] (some { x := 0 }))]) (.nm 5) (.itr .range [(.var 3)]) [])])) ::
  (.ite [(4, (.t (.d 1)))] (.and (.cmp .Gt [(.prim .len 0 [(.var 2)]), (.int 0)]) (.cmp .Eq [(.call 7 [(.var 0), (.int 3)] [0, 1] (some { x := 0 })), (.int 0)])) [
  .asg (.nm 4) (.slc 1 (.bin 1 .Add [(.item [(.var 2), (.call 7 [(.var 0), (.prim .len 0 [(.var 2)])] [0, 1] (some { x := 0 }))]), (.var 4)]) none (some (.int 8)))] []) ::
  b__law_names_2
def b__law_names : List S := (
  (.asg (.nm 2) (.lst 1 [])) ::
  (.whl [(4, (.t (.d 0)))] (.cmp .Lt [(.prim .len 0 [(.var 2)]), (.var 1)]) b__law_names_3) ::
  b__law_names_1)
def f__law_names : FnA where
  name := "_law_names"
  ns := ["pot", "many", "told", "size", "name", "turn"]
  np := 2
  io := some 0
  dio := 2
  dr := 1
  gl := []
  body := b__law_names
@[simp] theorem f__law_names_body : f__law_names.body = b__law_names := rfl
@[simp] theorem f__law_names_io : f__law_names.io = some 0 := rfl
@[simp] theorem f__law_names_dio : f__law_names.dio = 2 := rfl
@[simp] theorem f__law_names_dr : f__law_names.dr = 1 := rfl
theorem f__law_names_start (vs : List PV) : f__law_names.start vs = vs.map some ++ List.replicate (6 - vs.length) none := rfl
def b__law_nodes : List S := [
  .asg (.nm 1) (.lst 1 [(.var 0)]),
  .asg (.nm 2) (.lst 1 []),
  .whl [(3, (.t (.d 0)))] (.cmp .Gt [(.prim .len 0 [(.var 1)]), (.int 0)]) [
    .asg (.nm 3) (.mut .pop { x := 1 } [] []),
    .expr (.mut .append { x := 2 } [] [(.var 3)]),
    .ite [] (.cmp .Eq [(.prim .len 0 [(.var 3)]), (.int 3)]) [
      .asg (.nm 1) (.bin 1 .Add [(.var 1), (.lst 1 [(.item [(.var 3), (.int 1)]), (.item [(.var 3), (.int 2)])])])] []],
  .ret (.rev 1 (.var 2))]
def f__law_nodes : FnA where
  name := "_law_nodes"
  ns := ["expression", "todo", "rows", "node"]
  np := 1
  io := none
  dio := 0
  dr := 1
  gl := []
  body := b__law_nodes
@[simp] theorem f__law_nodes_body : f__law_nodes.body = b__law_nodes := rfl
@[simp] theorem f__law_nodes_io : f__law_nodes.io = none := rfl
@[simp] theorem f__law_nodes_dio : f__law_nodes.dio = 0 := rfl
@[simp] theorem f__law_nodes_dr : f__law_nodes.dr = 1 := rfl
theorem f__law_nodes_start (vs : List PV) : f__law_nodes.start vs = vs.map some ++ List.replicate (4 - vs.length) none := rfl
def b__law_laid_label : List S := [
  .asg (.nm 2) (.item [(.var 1), (.int 0)]),
  .for_ [(2, (.t (.d 0))), (3, (.t (.d 0)))] (.nm 3) (.slc 1 (.var 1) (some (.int 1)) none) [
    .ite [] (.cmp .NotIn [(.var 3), (.var 0)]) [
      .ret .non] [],
    .asg (.nm 2) (.bin 1 .Add [(.var 2), (.prim .str 0 [(.item [(.var 0), (.var 3)])])])],
  .ret (.var 2)]
def f__law_laid_label : FnA where
  name := "_law_laid_label"
  ns := ["worths", "label", "told", "name"]
  np := 2
  io := none
  dio := 0
  dr := 0
  gl := []
  body := b__law_laid_label
@[simp] theorem f__law_laid_label_body : f__law_laid_label.body = b__law_laid_label := rfl
@[simp] theorem f__law_laid_label_io : f__law_laid_label.io = none := rfl
@[simp] theorem f__law_laid_label_dio : f__law_laid_label.dio = 0 := rfl
@[simp] theorem f__law_laid_label_dr : f__law_laid_label.dr = 0 := rfl
theorem f__law_laid_label_start (vs : List PV) : f__law_laid_label.start vs = vs.map some ++ List.replicate (4 - vs.length) none := rfl
def b__law_worth : List S := [
  .asg (.nm 3) (.lst 1 []),
  .for_ [(4, (.t (.d 0))), (5, (.t (.d 0))), (6, (.t (.d 0))), (7, (.t (.d 0)))] (.nm 4) (.call 11 [(.var 2)] [0] none) [
    .ite [] (.cmp .Eq [(.item [(.var 4), (.int 0)]), (.str "number")]) [
      .expr (.mut .append { x := 3 } [] [(.item [(.var 4), (.int 1)])])] [
      .ite [] (.cmp .Eq [(.item [(.var 4), (.int 0)]), (.str "name")]) [
        .expr (.mut .append { x := 3 } [] [(.meth .get [(.var 0), (.item [(.var 4), (.int 1)])])])] [
        .ite [] (.cmp .In [(.item [(.var 4), (.int 0)]), (.tup 0 [(.str "begin"), (.str "after")])]) [
          .asg (.nm 5) (.meth .get [(.var 1), (.call 12 [(.var 0), (.item [(.var 4), (.int 1)])] [0, 1] none)]),
          .expr (.mut .append { x := 3 } [] [(.ite (.cmp .Is [(.var 5), .non]) .non (.item [(.var 5), (.prim .int 0 [(.cmp .Eq [(.item [(.var 4), (.int 0)]), (.str "after")])])]))])] [
          .asg (.nm 6) (.mut .pop { x := 3 } [] []),
          .asg (.nm 7) (.mut .pop { x := 3 } [] []),
          .ite [] (.or (.cmp .Is [(.var 7), .non]) (.cmp .Is [(.var 6), .non])) [
            .expr (.mut .append { x := 3 } [] [.non])] [
            .expr (.mut .append { x := 3 } [] [(.item [(.dct false 1 [(.str "+"), (.bin 1 .Add [(.var 7), (.var 6)]), (.str "-"), (.bin 1 .Sub [(.var 7), (.var 6)]), (.str "*"), (.bin 1 .Mult [(.var 7), (.var 6)])]), (.item [(.var 4), (.int 0)])])])]]]]],
  .ret (.item [(.var 3), (.int 0)])]
def f__law_worth : FnA where
  name := "_law_worth"
  ns := ["worths", "ends", "expression", "row", "node", "pair", "other", "one"]
  np := 3
  io := none
  dio := 0
  dr := 0
  gl := []
  body := b__law_worth
@[simp] theorem f__law_worth_body : f__law_worth.body = b__law_worth := rfl
@[simp] theorem f__law_worth_io : f__law_worth.io = none := rfl
@[simp] theorem f__law_worth_dio : f__law_worth.dio = 0 := rfl
@[simp] theorem f__law_worth_dr : f__law_worth.dr = 0 := rfl
theorem f__law_worth_start (vs : List PV) : f__law_worth.start vs = vs.map some ++ List.replicate (8 - vs.length) none := rfl
def b__law_any_1 : List S := [
  .ret (.item [(.var 4), (.int 0)])]
def b__law_any_2 : List S := [
  .asg (.nm 7) (.call 7 [(.var 0), (.bin 0 .Sub [(.prim .len 0 [(.var 4)]), (.int 1)])] [0, 1] (some { x := 0 })),
  .set { x := 4 } [(.var 7)] (.tup 0 [(.item [(.tup 0 [(.str "+"), (.str "-"), (.str "*"), (.str "-")]), (.call 7 [(.var 0), (.int 4)] [0, 1] (some { x := 0 }))]), (.item [(.var 4), (.var 7)]), (.mut .pop { x := 4 } [] [(.bin 0 .Add [(.var 7), (.int 1)])])])]
def b__law_any_3 : List S := 
  (.whl [] (.cmp .Gt [(.prim .len 0 [(.var 4)]), (.int 1)]) b__law_any_2) ::
  b__law_any_1
def b__law_any_4 : List S := [
  .asg (.nm 6) (.call 7 [(.var 0), (.int 5)] [0, 1] (some { x := 0 })),
  .ite [] (.cmp .Eq [(.var 6), (.int 0)]) [
  .expr (.mut .append { x := 4 } [] [(.tup 0 [(.str "number"), (.item [(.tup 0 [(.call 7 [(.var 0), (.int 10)] [0, 1] (some { x := 0 })), (.call 7 [(.var 0), (.int 1000000)] [0, 1] (some { x := 0 }))]), (.call 7 [(.var 0), (.int 2)] [0, 1] (some { x := 0 }))])])])] [
  .ite [] (.cmp .Lt [(.var 6), (.int 3)]) [
  .expr (.mut .append { x := 4 } [] [(.tup 0 [(.str "name"), (.item [(.var 1), (.call 7 [(.var 0), (.prim .len 0 [(.var 1)])] [0, 1] (some { x := 0 }))])])])] [
  .expr (.mut .append { x := 4 } [] [(.tup 0 [(.item [(.tup 0 [(.str "begin"), (.str "after")]), (.bin 0 .Sub [(.var 6), (.int 3)])]), (.item [(.var 2), (.call 7 [(.var 0), (.prim .len 0 [(.var 2)])] [0, 1] (some { x := 0 }))])])])]]]
def b__law_any : List S := (
  (.asg (.nm 4) (.lst 1 [])) ::
  (.for_ [(5, (.t (.d 0)))] (.nm 5) (.itr .range [(.bin 1 .Add [(.int 1), (.var 3)])]) b__law_any_4) ::
  b__law_any_3)
def f__law_any : FnA where
  name := "_law_any"
  ns := ["pot", "names", "labels", "deep", "rows", "turn", "way", "at"]
  np := 4
  io := some 0
  dio := 2
  dr := 0
  gl := []
  body := b__law_any
@[simp] theorem f__law_any_body : f__law_any.body = b__law_any := rfl
@[simp] theorem f__law_any_io : f__law_any.io = some 0 := rfl
@[simp] theorem f__law_any_dio : f__law_any.dio = 2 := rfl
@[simp] theorem f__law_any_dr : f__law_any.dr = 0 := rfl
theorem f__law_any_start (vs : List PV) : f__law_any.start vs = vs.map some ++ List.replicate (8 - vs.length) none := rfl
def b_law_1 : List S := [
  .asg (.nm 19) (.tup 0 [(.str "-"), (.tup 0 [(.str "-"), (.tup 0 [(.str "number"), (.int 9)]), (.tup 0 [(.str "number"), (.int 4)])]), (.tup 0 [(.str "number"), (.int 3)])]),
  .asg (.nm 18) (.tup 0 [(.call 5 [(.var 19), (.dct false 1 []), (.dct false 1 [])] [2, 1, 0] none), (.call 5 [(.dct false 1 []), (.dct false 1 []), (.tup 0 [(.str "-"), (.tup 0 [(.str "number"), (.int 9)]), (.tup 0 [(.str "-"), (.tup 0 [(.str "number"), (.int 4)]), (.tup 0 [(.str "number"), (.int 3)])])])] [0, 1, 2] none), (.call 5 [(.var 16), (.var 17), (.tup 0 [(.str "begin"), (.tup 0 [(.var 13), (.var 15)])])] [0, 1, 2] none)]),
  .asg (.nm 20) (.tup 0 [(.call 5 [(.var 16), (.var 17), (.tup 0 [(.str "*"), (.tup 0 [(.str "name"), (.var 14)]), (.tup 0 [(.str "name"), (.var 15)])])] [0, 1, 2] none), (.call 5 [(.var 16), (.var 17), (.tup 0 [(.str "+"), (.tup 0 [(.str "number"), (.int 1)]), (.tup 0 [(.str "name"), (.var 13)])])] [0, 1, 2] none), (.call 5 [(.dct false 1 []), (.var 17), (.tup 0 [(.str "after"), (.tup 0 [(.var 13), (.var 14)])])] [0, 1, 2] none)]),
  .ret (.and (.call 8 [(.var 18), (.tup 0 [(.int 2), (.int 8), .non])] [0, 1] none) (.call 8 [(.var 20), (.tup 0 [(.bin 0 .Sub [(.int 0), (.int 36)]), .non, .non])] [0, 1] none))]
def b_law_2 : List S := 
  (.asg (.tp [(.nm 13), (.nm 14), (.nm 15)]) (.slc 1 (.var 2) (some (.int 5)) none)) ::
  (.asg (.nm 16) (.dct false 1 [])) ::
  (.set { x := 16 } [(.var 14)] (.int 12)) ::
  (.set { x := 16 } [(.var 15)] (.bin 0 .Sub [(.int 0), (.int 3)])) ::
  (.asg (.nm 17) (.dct false 1 [])) ::
  (.set { x := 17 } [(.bin 1 .Add [(.var 13), (.str "12")])] (.tup 0 [(.int 4), (.int 9)])) ::
  (.asg (.nm 18) (.tup 0 [(.call 0 [(.tup 0 [(.var 13), (.var 14), (.var 15)]), (.var 16)] [1, 0] none), (.call 0 [(.var 16), (.tup 0 [(.var 13)])] [0, 1] none), (.call 0 [(.dct false 1 []), (.tup 0 [(.var 13), (.var 14)])] [0, 1] none), (.call 5 [(.var 16), (.var 17), (.tup 0 [(.str "begin"), (.tup 0 [(.var 13), (.var 14)])])] [0, 1, 2] none), (.call 5 [(.var 16), (.var 17), (.tup 0 [(.str "after"), (.tup 0 [(.var 13), (.var 14)])])] [0, 1, 2] none)])) ::
  (.ite [] (.not (.call 8 [(.var 18), (.tup 0 [(.bin 1 .Add [(.var 13), (.str "12-3")]), (.var 13), .non, (.int 4), (.int 9)])] [0, 1] none)) [
  .ret (.bl false)] []) ::
  b_law_1
def b_law_3 : List S := [
  .asg (.nm 12) (.call 14 [(.var 1), (.item [(.tup 0 [(.slc 1 (.var 2) none (some (.int 5))), (.slc 1 (.var 2) none (some (.int 6)))]), (.prim .int 0 [(.cmp .Eq [(.call 7 [(.var 1), (.int 4)] [0, 1] (some { x := 1 })), (.int 0)])])]), (.var 5), (.call 7 [(.var 1), (.int 6)] [0, 1] (some { x := 1 }))] [0, 1, 2, 3] (some { x := 1 })),
  .ite [] (.not (.call 8 [(.call 5 [(.var 3), (.var 6), (.var 12)] [0, 1, 2] none), (.call 13 [(.var 3), (.var 6), (.var 12)] [0, 1, 2] none)] [0, 1] none)) [
  .ret (.bl false)] []]
def b_law_4 : List S := 
  (.for_ [] (.nm 7) (.itr .range [(.int 8)]) b_law_3) ::
  b_law_2
def b_law_5 : List S := [
  .expr (.mut .append { x := 5 } [] [(.var 8)]),
  .asg (.nm 10) (.call 12 [(.var 3), (.var 8)] [0, 1] none),
  .ite [] (.and (.cmp .IsNot [(.var 10), .non]) (.cmp .Gt [(.call 7 [(.var 1), (.int 6)] [0, 1] (some { x := 1 })), (.int 0)])) [
  .asg (.nm 11) (.call 7 [(.var 1), (.int 200)] [0, 1] (some { x := 1 })),
  .set { x := 6 } [(.var 10)] (.tup 0 [(.var 11), (.bin 0 .Add [(.var 11), (.call 7 [(.var 1), (.int 50)] [0, 1] (some { x := 1 }))])])] []]
def b_law_6 : List S := 
  (.ite [] (.not (.call 8 [(.call 0 [(.var 3), (.var 8)] [0, 1] none), (.call 12 [(.var 3), (.var 8)] [0, 1] none)] [0, 1] none)) [
  .ret (.bl false)] []) ::
  b_law_5
def b_law_7 : List S := [
  .asg (.nm 8) (.bin 1 .Add [(.var 8), (.tup 0 [(.item [(.var 2), (.call 7 [(.var 1), (.item [(.tup 0 [(.int 5), (.int 8)]), (.prim .int 0 [(.cmp .Eq [(.call 7 [(.var 1), (.int 5)] [0, 1] (some { x := 1 })), (.int 0)])])])] [0, 1] (some { x := 1 }))])])])]
def b_law_8 : List S := 
  (.asg (.nm 8) (.tup 0 [(.item [(.var 2), (.bin 0 .Add [(.int 5), (.call 7 [(.var 1), (.int 3)] [0, 1] (some { x := 1 }))])])])) ::
  (.for_ [(8, (.t (.d 0)))] (.nm 9) (.itr .range [(.call 7 [(.var 1), (.int 4)] [0, 1] (some { x := 1 }))]) b_law_7) ::
  b_law_6
def b_law_9 : List S := 
  (.asg (.nm 5) (.lst 1 [])) ::
  (.asg (.nm 6) (.dct false 1 [])) ::
  (.for_ [(8, (.t (.d 0)))] (.nm 7) (.itr .range [(.int 6)]) b_law_8) ::
  b_law_4
def b_law_10 : List S := [
  .set { x := 3 } [(.var 4)] (.item [(.tup 0 [(.call 7 [(.var 1), (.int 9)] [0, 1] (some { x := 1 })), (.bin 0 .Sub [(.int 0), (.call 7 [(.var 1), (.int 30)] [0, 1] (some { x := 1 }))]), (.call 7 [(.var 1), (.int 999999999)] [0, 1] (some { x := 1 })), (.int 0), (.bin 0 .Add [(.int 10), (.call 7 [(.var 1), (.int 90)] [0, 1] (some { x := 1 }))])]), (.call 7 [(.var 1), (.int 5)] [0, 1] (some { x := 1 }))])]
def b_law : List S := (
  (.asg (.nm 1) (.call 6 [(.var 0)] [0] none)) ::
  (.asg (.nm 2) (.call 10 [(.var 1), (.int 8)] [0, 1] (some { x := 1 }))) ::
  (.asg (.nm 3) (.dct false 1 [])) ::
  (.for_ [(4, (.t (.d 0)))] (.nm 4) (.slc 1 (.var 2) none (some (.int 5))) b_law_10) ::
  b_law_9)
def f_law : FnA where
  name := "law"
  ns := ["script", "pot", "names", "worths", "name", "labels", "ends", "turn", "label", "lap", "laid", "begin", "expression", "a", "i", "j", "some", "pairs", "told", "minus", "more"]
  np := 1
  io := none
  dio := 0
  dr := 0
  gl := []
  body := b_law
@[simp] theorem f_law_body : f_law.body = b_law := rfl
@[simp] theorem f_law_io : f_law.io = none := rfl
@[simp] theorem f_law_dio : f_law.dio = 0 := rfl
@[simp] theorem f_law_dr : f_law.dr = 0 := rfl
theorem f_law_start (vs : List PV) : f_law.start vs = vs.map some ++ List.replicate (21 - vs.length) none := rfl
def TT : List FnA := [f_laid_label, f_tick_worth, f_atom_worth, f_joined_worth, f_all_worths, f_worth_of, f__law_pot, f__law_ladle, f__law_same, f__law_kept, f__law_names, f__law_nodes, f__law_laid_label, f__law_worth, f__law_any, f_law]
end K07
set_option maxRecDepth 100000
set_option maxHeartbeats 0
namespace K07
open PySem OI
theorem sp_joined {k : Nat} {s : Str} {a b : Int} {Q : PV × Option PV → Prop} (hs : shp0 (.str s) = true) (h1 : mulOk a b)
    (hQ : Q ((if s = Str.ofString "*" then .int (a * b) else if s = Str.ofString "+" then .int (a + b) else .int (a - b)), none)) : wp (callN TT (k + 1) 3 [.str s, .int a, .int b]) Q := by
  rw [wp_fn (d := f_joined_worth) rfl rfl]
  have e1 : shp0 (PV.str (Str.ofString "*")) = true := by decide +kernel
  have e2 : shp0 (PV.str (Str.ofString "+")) = true := by decide +kernel
  simp [f_joined_worth_start, b_joined_worth, getV, cmpP, truth, litP, binP, hs, e1, e2, eqP]
  by_cases c1 : s = Str.ofString "*"
  · simp [c1, getV, binP, h1, cleanB, clean] at hQ ⊢
    exact hQ
  · have d1 : (s == Str.ofString "*") = false := beq_eq_false_iff_ne.mpr c1
    simp [d1, c1, getV, cmpP, truth, litP, hs, e2, eqP] at hQ ⊢
    by_cases c2 : s = Str.ofString "+"
    · subst c2
      simp [getV, binP, cleanB, clean] at hQ ⊢
      exact hQ
    · have d2 : (s == Str.ofString "+") = false := beq_eq_false_iff_ne.mpr c2
      simp [d2, c2, getV, binP, cleanB, clean] at hQ ⊢
      exact hQ
end K07
set_option maxRecDepth 100000
set_option maxHeartbeats 0
namespace K07
open PySem OI
def pot (g : List Int) (c m : Int) : PV := .lst [.lst (g.map .int), .int c, .int m]
theorem sp_ladle {k : Nat} {g : List Int} {c m many : Int} {Q : PV × Option PV → Prop} (hg : ∀ x ∈ g, 0 ≤ x) (hl : g.length ≤ 1000) (hc : 0 ≤ c) (hm : 0 ≤ m) (h0 : 0 < many) (h1 : many < 2 ^ 62)
    (hQ : ∀ (r : Int) (g' : List Int) (c' m' : Int), 0 ≤ r → r < many → (∀ x ∈ g', 0 ≤ x) → g'.length ≤ 1000 → 0 ≤ c' → 0 ≤ m' → Q (.int r, some (pot g' c' m'))) : wp (callN TT (k + 1) 7 [pot g c m, .int many]) Q := by
  rw [wp_fn (d := f__law_ladle) rfl rfl]
  have dv : divOk many := by
    refine ⟨h0, ?_⟩
    have : many.natAbs.log2 < 62 := (Nat.log2_lt (by omega)).mpr (by omega)
    omega
  have d1 : divOk 1151 := by decide
  have mk : mulOk c 42013 := .inr (.inl (by decide))
  have mk2 : mulOk (m + 1) 6007 := .inr (.inl (by decide))
  simp [f__law_ladle_start, b__law_ladle, pot, getV, itemP, atP, ixP, primP, cmpP, truth]
  rcases List.eq_nil_or_concat g with hgn | ⟨g0, x, rfl⟩
  · subst hgn
    simp [getV, itemP, atP, ixP, primP, readPath, writePath, getPath, putPath, setP, setV, Pr.ks, binP, mk, mk2, dv, d1, kOut_retIo (d := f__law_ladle) rfl, cleanB, clean, h0]
    exact hQ _ [] _ _ (Int.emod_nonneg _ (by omega)) (Int.emod_lt_of_pos _ h0) (by simp) (by simp) (by omega) (by omega)
  · have hx : 0 ≤ x := hg x (by simp)
    have hg0 : ∀ y ∈ g0, 0 ≤ y := fun y hy => hg y (by simp [hy])
    have hl0 : g0.length + 1 ≤ 1000 := by simpa using hl
    have hlt : g0.length < 16777216 := by omega
    have cc : ∀ ys : List Int, cleanB 2 (.lst [.lst (ys.map .int), .int c, .int m]) = true := fun ys => by simp [cleanB, clean]
    simp [getV, itemP, atP, ixP, primP, readPath, writePath, getPath, putPath, setP, setV, Pr.ks, binP, mutP, OI.isLst, dv, cmpP, truth]
    by_cases hmx : many ≤ x
    · simp [hmx, getV, itemP, atP, ixP, primP, readPath, writePath, getPath, putPath, setP, setV, Pr.ks, binP, mutP, OI.isLst, dv, h0, hlt, kOut_retIo (d := f__law_ladle) rfl]
      repeat (refine ⟨by simp [cleanB, clean], ?_⟩)
      have := hQ (x % many) (g0 ++ [x / many]) c m (Int.emod_nonneg _ (by omega)) (Int.emod_lt_of_pos _ h0) (fun y hy => by
        rcases List.mem_append.mp hy with hy | hy
        · exact hg0 y hy
        · simp at hy; subst hy; exact Int.ediv_nonneg hx (by omega)) (by simp; omega) hc hm
      simpa [pot] using this
    · simp [hmx, getV, binP, dv, h0, kOut_retIo (d := f__law_ladle) rfl]
      repeat (refine ⟨by simp [cleanB, clean], ?_⟩)
      exact hQ (x % many) g0 c m (Int.emod_nonneg _ (by omega)) (Int.emod_lt_of_pos _ h0) hg0 (by omega) hc hm
end K07
set_option maxRecDepth 100000
set_option maxHeartbeats 0
namespace K07
open PySem OI
def IPot (s : PV) (rest : List PV) (env : OI.Env) : Prop := ∃ (g : List Int) (c : Int) (a b : Option PV) (ms : List Int), env = [some s, some (.lst (g.map .int)), some (.int c), a, b] ∧ (∀ x ∈ g, 0 ≤ x) ∧ 0 ≤ c ∧ rest = ms.map .int ∧ g.length + ms.length ≤ 60
theorem sp_pot {k : Nat} {ns : List Int} {Q : PV × Option PV → Prop}
    (hQ : ∀ (g : List Int) (c : Int), (∀ x ∈ g, 0 ≤ x) → g.length ≤ 60 → 0 ≤ c → Q (pot g c 0, none)) : wp (callN TT (k + 1) 6 [.lst (ns.map .int)]) Q := by
  rw [wp_fn (d := f__law_pot) rfl rfl]
  simp [f__law_pot_start, b__law_pot, getV, setV]
  simp [getV, slcP, itemsOf]
  refine wp_for (IPot (.lst (ns.map .int))) ?_ ?_ ?_
  · refine ⟨[], 730033, none, none, ns.take 60, rfl, by simp, by omega, ?_, by simp; omega⟩
    simp only [cutP, clampP, List.length_map]
    rw [List.map_take]
    simp [List.take_eq_take_iff, Nat.min_comm]
  · rintro x xs env ⟨g, c, a, b, ms, rfl, hg, hc, hms, hl⟩
    cases ms with
    | nil => simp at hms
    | cons i ms =>
      simp at hms hl
      obtain ⟨rfl, rfl⟩ := hms
      have m1 : mulOk c 44497 := .inr (.inl (by decide))
      have p1 : powOk 1 1700 := by decide
      have p2 : powOk 10 18 := by decide
      have hM : (0 : Int) < 2 ^ 1700 := by decide +kernel
      simp [getV, setV, primP, binP, m1, p1, p2, cmpP, truth]
      generalize (2 : Int) ^ 1700 = M at hM ⊢
      refine ⟨hM, ?_⟩
      generalize ha : (if i < 0 then -i else i) = j
      have hj : 0 ≤ j := by rw [← ha]; split <;> omega
      have hs : 0 ≤ j % M := Int.emod_nonneg _ (by omega)
      generalize j % M = z at hs ⊢
      have hc2 : 0 ≤ (c * 44497 + z % 2147480459 + 71) % 4294967111 := by omega
      by_cases hz : 1000000000000000000 ≤ z
      · have hlt : g.length < 16777216 := by omega
        simp [hz, getV, setV, mutP, OI.isLst, readPath, writePath, getPath, putPath, Pr.ks, hlt]
        exact ⟨g ++ [z], _, some (.int i), some (.int z), ms, by simp, fun y hy => by
          rcases List.mem_append.mp hy with hy | hy
          · exact hg y hy
          · simp at hy; omega, hc2, rfl, by simp; omega⟩
      · simp [hz]
        exact ⟨g, _, some (.int i), some (.int z), ms, rfl, hg, hc2, rfl, by omega⟩
  · rintro env ⟨g, c, a, b, ms, rfl, hg, hc, hms, hl⟩
    simp [getV, setV, kOut_ret (d := f__law_pot) rfl, cleanB, clean]
    exact hQ g c hg (by omega) hc
end K07
set_option maxRecDepth 100000
set_option maxHeartbeats 0
namespace K07
open PySem OI
/-- a dict of names and small numbers -/
structure Wd (ks vs : List PV) (W : Str → Option Int) : Prop where
  at_ : ∀ n : Str, lookP (.str n) ks vs = (W n).map .int
  small : ∀ (n : Str) (i : Int), W n = some i → i.natAbs < 10 ^ 12
def txt (i : Int) : Str := Str.ofString (toString i)
/-- the names' worths behind acc -/
def labS (W : Str → Option Int) (acc : Str) : List Str → Option Str
  | [] => some acc
  | n :: ns => match W n with
    | none => none
    | some i => labS W (acc ++ txt i) ns
def optS : Option Str → PV
  | none => .non
  | some s => .str s
theorem txt_len {i : Int} (h : i.natAbs < 10 ^ 12) : (txt i).length ≤ 13 := by
  have := PySem.int_text_length_le10 (k := 12) (by decide) h
  show (Str.ofString (toString i)).length ≤ 13
  rw [PySem.ofString_length]
  exact this
theorem log_small {i : Int} (h : i.natAbs < 10 ^ 12) : i.natAbs.log2 < 1920 := by
  by_cases hz : i.natAbs = 0
  · rw [hz]; decide
  · have : i.natAbs.log2 < 40 := (Nat.log2_lt hz).mpr (by omega)
    omega
/-- the law's label -/
def ILab (ks vs : List PV) (W : Str → Option Int) (lb : PV) (R : Option Str) (rest : List PV) (env : OI.Env) : Prop := ∃ (acc : Str) (b : Option PV) (ms : List Str), env = [some (.dct false ks vs), some lb, some (.str acc), b] ∧ rest = ms.map .str ∧ labS W acc ms = R ∧ acc.length + 13 * ms.length ≤ 1000
theorem sp_lawlab {k : Nat} {ks vs : List PV} {W : Str → Option Int} {n0 : Str} {ns : List Str} {Q : PV × Option PV → Prop} (w : Wd ks vs W) (hl : n0.length + 13 * ns.length ≤ 1000)
    (hQ : Q (optS (labS W n0 ns), none)) : wp (callN TT (k + 1) 12 [.dct false ks vs, .tup ((n0 :: ns).map .str)]) Q := by
  rw [wp_fn (d := f__law_laid_label) rfl rfl]
  simp [f__law_laid_label_start, b__law_laid_label, getV, setV, itemP, atP, ixP]
  simp [getV, slcP, itemsOf]
  refine wp_for (ILab ks vs W (.tup (.str n0 :: ns.map .str)) (labS W n0 ns)) ?_ ?_ ?_
  · refine ⟨n0, none, ns, rfl, ?_, rfl, hl⟩
    simp [cutP, clampP]
    exact List.take_of_length_le (by simp)
  · rintro x xs env ⟨acc, b, ms, rfl, hms, hR, hb⟩
    cases ms with
    | nil => simp at hms
    | cons m ms =>
      simp at hms hb
      obtain ⟨rfl, rfl⟩ := hms
      simp [getV, setV, cmpP, isKey, isKey1, truth, w.at_]
      cases hw : W m with
      | none =>
        simp [kOut_ret (d := f__law_laid_label) rfl, cleanB, clean]
        simp [labS, hw] at hR
        rw [← hR] at hQ
        exact hQ
      | some i =>
        have hi := w.small m i hw
        simp [getV, setV, itemP, isKey, isKey1, w.at_, hw, primP, log_small hi, binP]
        have hl2 : (Str.ofString i.repr).length ≤ 13 := txt_len hi
        refine ⟨by omega, acc ++ Str.ofString i.repr, some (.str m), ms, rfl, rfl, ?_, ?_⟩
        · rw [← hR]
          simp only [labS, hw]
          rfl
        · rw [PySem.Str.length_append]
          omega
  · rintro env ⟨acc, b, ms, rfl, hms, hR, hb⟩
    cases ms with
    | cons _ _ => simp at hms
    | nil =>
      simp [getV, kOut_ret (d := f__law_laid_label) rfl, cleanB, clean]
      simp [labS] at hR
      rw [← hR] at hQ
      exact hQ
/-- the program's label -/
def ILab2 (ks vs : List PV) (W : Str → Option Int) (lb : PV) (R : Option Str) (rest : List PV) (env : OI.Env) : Prop := ∃ (told : List Str) (b : Option PV) (ms : List Str), env = [some (.dct false ks vs), some lb, some (.lst (told.map .str)), b] ∧ rest = ms.map .str ∧ labS W (joinP Str.empty told) ms = R ∧ (told.map (·.length)).sum + 13 * ms.length ≤ 1000 ∧ told ≠ [] ∧ told.length + ms.length ≤ 1000
theorem join_snoc (y : Str) : ∀ {xs : List Str}, xs ≠ [] → joinP Str.empty (xs ++ [y]) = joinP Str.empty xs ++ y
  | [], h => absurd rfl h
  | [x], _ => by
    show x ++ Str.empty ++ y = x ++ y
    rw [PySem.Str.append_empty]
  | x :: z :: xs, _ => by
    show x ++ Str.empty ++ joinP Str.empty (z :: (xs ++ [y])) = x ++ Str.empty ++ joinP Str.empty (z :: xs) ++ y
    have := join_snoc y (xs := z :: xs) (by simp)
    rw [List.cons_append] at this
    rw [this, PySem.Str.append_assoc, PySem.Str.append_assoc, PySem.Str.append_assoc]
theorem strs_map : ∀ xs : List Str, strsOf (xs.map PV.str) = some xs
  | [] => rfl
  | x :: xs => by simp [strsOf, strs_map xs]
theorem sp_lab {k : Nat} {ks vs : List PV} {W : Str → Option Int} {n0 : Str} {ns : List Str} {Q : PV × Option PV → Prop} (w : Wd ks vs W) (hl : n0.length + 13 * ns.length ≤ 1000)
    (hl2 : ns.length ≤ 900) (hQ : Q (optS (labS W n0 ns), none)) : wp (callN TT (k + 1) 0 [.dct false ks vs, .tup ((n0 :: ns).map .str)]) Q := by
  rw [wp_fn (d := f_laid_label) rfl rfl]
  simp [f_laid_label_start, b_laid_label, getV, setV, itemP, atP, ixP]
  simp [getV, slcP, itemsOf]
  refine wp_for (ILab2 ks vs W (.tup (.str n0 :: ns.map .str)) (labS W n0 ns)) ?_ ?_ ?_
  · refine ⟨[n0], none, ns, rfl, ?_, rfl, by simpa using hl, by simp, by simp; omega⟩
    simp [cutP, clampP]
    exact List.take_of_length_le (by simp)
  · rintro x xs env ⟨told, b, ms, rfl, hms, hR, hb, ht, hn⟩
    cases ms with
    | nil => simp at hms
    | cons m ms =>
      simp at hms hb hn
      obtain ⟨rfl, rfl⟩ := hms
      simp [getV, setV, cmpP, isKey, isKey1, truth, w.at_]
      cases hw : W m with
      | none =>
        simp [kOut_ret (d := f_laid_label) rfl, cleanB, clean]
        simp [labS, hw] at hR
        rw [← hR] at hQ
        exact hQ
      | some i =>
        have hi := w.small m i hw
        have hl2 : (Str.ofString i.repr).length ≤ 13 := txt_len hi
        have hlt : told.length < 16777216 := by omega
        simp [getV, setV, itemP, isKey, isKey1, w.at_, hw, primP, log_small hi, mutP, OI.isLst, readPath, writePath, getPath, putPath, Pr.ks, hlt]
        refine ⟨told ++ [Str.ofString i.repr], some (.str m), ms, by simp, rfl, ?_, by simp; omega, by simp, by simp; omega⟩
        rw [join_snoc _ ht, ← hR]
        simp only [labS, hw]
        rfl
  · rintro env ⟨told, b, ms, rfl, hms, hR, hb, ht, hn⟩
    cases ms with
    | cons _ _ => simp at hms
    | nil =>
      simp at hb
      simp [labS] at hR
      have e0 : (Str.ofString "").length = 0 := rfl
      have e1 : Str.ofString "" = Str.empty := rfl
      simp [getV]
      refine wpE_meth ?_
      simp [methPre, getV, litP, methP, seqP, strs_map, e0, e1, kOut_ret (d := f_laid_label) rfl, cleanB, clean]
      have e2 : Str.empty.length = 0 := rfl
      refine ⟨by rw [e2]; omega, ?_⟩
      rw [← hR] at hQ
      exact hQ
end K07
set_option maxRecDepth 100000
set_option maxHeartbeats 0
namespace K07
open PySem OI
/-- an expression's leaves, its trees -/
inductive Kd where
  | num (i : Int) | name (n : Str) | tick (aft : Bool) (n0 : Str) (ns : List Str)
inductive Op3 where
  | add | sub | mul
inductive Ex where
  | leaf (k : Kd) | op (o : Op3) (l r : Ex)
def Op3.s : Op3 → String
  | .add => "+" | .sub => "-" | .mul => "*"
def Kd.pv : Kd → PV
  | .num i => .tup [.str (Str.ofString "number"), .int i]
  | .name n => .tup [.str (Str.ofString "name"), .str n]
  | .tick a n0 ns => .tup [.str (Str.ofString (if a then "after" else "begin")), .tup ((n0 :: ns).map .str)]
def Ex.pv : Ex → PV
  | .leaf k => k.pv
  | .op o l r => .tup [.str (Str.ofString o.s), l.pv, r.pv]
def optI : Option Int → PV
  | none => .non
  | some i => .int i
def Op3.ap : Op3 → Option Int → Option Int → Option Int
  | .add, some a, some b => some (a + b)
  | .sub, some a, some b => some (a - b)
  | .mul, some a, some b => some (a * b)
  | _, _, _ => none
/-- a dict of pairs -/
structure Ed (ks vs : List PV) (D : Str → Option (Int × Int)) : Prop where
  at_ : ∀ n : Str, lookP (.str n) ks vs = (D n).map fun p => .tup [.int p.1, .int p.2]
  small : ∀ (n : Str) (p : Int × Int), D n = some p → p.1.natAbs < 10 ^ 12 ∧ p.2.natAbs < 10 ^ 12
def Kd.ev (W : Str → Option Int) (D : Str → Option (Int × Int)) : Kd → Option Int
  | .num i => some i
  | .name n => W n
  | .tick a n0 ns => match labS W n0 ns with
    | none => none
    | some s => (D s).map fun p => if a then p.2 else p.1
def Ex.ev (W : Str → Option Int) (D : Str → Option (Int × Int)) : Ex → Option Int
  | .leaf k => k.ev W D
  | .op o l r => o.ap (l.ev W D) (r.ev W D)
/-- small: so many binary digits -/
def Bd (b : Nat) (v : Option Int) : Prop := ∀ i, v = some i → i.natAbs < 2 ^ b
theorem Bd.mono {b c : Nat} {v : Option Int} (h : Bd b v) (hc : b ≤ c) : Bd c v := fun i e => Nat.lt_of_lt_of_le (h i e) (Nat.pow_le_pow_right (by omega) hc)
theorem bd_log {b : Nat} {i : Int} (h : i.natAbs < 2 ^ b) : i.natAbs.log2 ≤ b := by
  by_cases hz : i.natAbs = 0
  · rw [hz]; simp
  · exact Nat.le_of_lt ((Nat.log2_lt hz).mpr h)
theorem bd_mul {a b : Nat} {i j : Int} (h : i.natAbs < 2 ^ a) (h2 : j.natAbs < 2 ^ b) (hs : a + b < 1000000) : mulOk i j := by
  have := bd_log h
  have := bd_log h2
  exact .inr (.inr (by omega))
theorem bd_ap {o : Op3} {a b : Nat} {x y : Option Int} (h : Bd a x) (h2 : Bd b y) : Bd (a + b + 1) (o.ap x y) := by
  intro i e
  cases x with
  | none => cases o <;> simp [Op3.ap] at e
  | some x =>
    cases y with
    | none => cases o <;> simp [Op3.ap] at e
    | some y =>
      have h := h x rfl
      have h2 := h2 y rfl
      have p1 : 2 ^ a ≤ 2 ^ (a + b) := Nat.pow_le_pow_right (by omega) (by omega)
      have p2 : 2 ^ b ≤ 2 ^ (a + b) := Nat.pow_le_pow_right (by omega) (by omega)
      have p3 : 2 ^ (a + b + 1) = 2 * 2 ^ (a + b) := by rw [Nat.pow_succ]; omega
      rw [p3]
      cases o <;> simp only [Op3.ap, Option.some.injEq] at e <;> subst e
      · omega
      · omega
      · rw [Int.natAbs_mul]
        have : x.natAbs * y.natAbs < 2 ^ a * 2 ^ b := Nat.mul_lt_mul'' h h2
        rw [← Nat.pow_add] at this
        omega
theorem sp_join3 {k : Nat} {o : Op3} {a b : Nat} {x y : Option Int} {Q : PV × Option PV → Prop} (h1 : Bd a x) (h2 : Bd b y) (hs : a + b < 1000000) (hQ : Q (optI (o.ap x y), none)) : wp (callN TT (k + 1) 3 [.str (Str.ofString o.s), optI x, optI y]) Q := by
  cases x with
  | none =>
    rw [wp_fn (d := f_joined_worth) rfl rfl]
    have : o.ap none y = none := by cases o <;> rfl
    rw [this] at hQ
    simp [f_joined_worth_start, b_joined_worth, getV, cmpP, truth, optI, kOut_ret (d := f_joined_worth) rfl, cleanB, clean]
    exact hQ
  | some x =>
    cases y with
    | none =>
      rw [wp_fn (d := f_joined_worth) rfl rfl]
      have : o.ap (some x) none = none := by cases o <;> rfl
      rw [this] at hQ
      simp [f_joined_worth_start, b_joined_worth, getV, cmpP, truth, optI, kOut_ret (d := f_joined_worth) rfl, cleanB, clean]
      exact hQ
    | some y =>
      refine sp_joined (by cases o <;> decide +kernel) (bd_mul (h1 x rfl) (h2 y rfl) hs) ?_
      have n1 : Str.ofString "+" ≠ Str.ofString "*" := by decide +kernel
      have n2 : Str.ofString "-" ≠ Str.ofString "*" := by decide +kernel
      have n3 : Str.ofString "-" ≠ Str.ofString "+" := by decide +kernel
      cases o
      · rw [if_neg (show ¬ Str.ofString Op3.add.s = Str.ofString "*" from n1), if_pos (show Str.ofString Op3.add.s = Str.ofString "+" from rfl)]
        exact hQ
      · rw [if_neg (show ¬ Str.ofString Op3.sub.s = Str.ofString "*" from n2), if_neg (show ¬ Str.ofString Op3.sub.s = Str.ofString "+" from n3)]
        exact hQ
      · rw [if_pos (show Str.ofString Op3.mul.s = Str.ofString "*" from rfl)]
        exact hQ
end K07
set_option maxRecDepth 100000
set_option maxHeartbeats 0
namespace K07
open PySem OI
theorem sp_tick {k : Nat} {ks vs es ws : List PV} {W : Str → Option Int} {D : Str → Option (Int × Int)} {a : Bool} {n0 : Str} {ns : List Str} {Q : PV × Option PV → Prop} (w : Wd ks vs W) (de : Ed es ws D) (hl : n0.length + 13 * ns.length ≤ 1000) (hl2 : ns.length ≤ 900)
    (hQ : Q (optI ((Kd.tick a n0 ns).ev W D), none)) : wp (callN TT (k + 2) 1 [.dct false ks vs, .dct false es ws, (Kd.tick a n0 ns).pv]) Q := by
  rw [wp_fn (d := f_tick_worth) rfl rfl]
  simp [f_tick_worth_start, b_tick_worth, getV, setV, recvOk, Meth.ty]
  refine wpE_call ?_
  simp [getV, itemP, atP, ixP, Kd.pv]
  refine kCall_ctx (d := f_laid_label) rfl rfl (sp_lab w hl hl2 ?_)
  simp [writeBack, getV]
  cases hL : labS W n0 ns with
  | none =>
    simp [Kd.ev, hL] at hQ
    simp [optS, methP, getP, isNon, setV, getV, cmpP, truth, kOut_ret (d := f_tick_worth) rfl, cleanB, clean]
    exact hQ
  | some s =>
    simp [Kd.ev, hL] at hQ
    simp [optS, methP, getP, isNon, isKey, isKey1, setV, getV, de.at_]
    cases hD : D s with
    | none =>
      simp [hD] at hQ
      simp [cmpP, truth, kOut_ret (d := f_tick_worth) rfl, cleanB, clean]
      exact hQ
    | some p =>
      simp [hD] at hQ
      have e1 : shp0 (PV.str (Str.ofString "begin")) = true := by decide +kernel
      have e2 : shp0 (PV.str (Str.ofString "after")) = true := by decide +kernel
      have e3 : (Str.ofString "after" == Str.ofString "begin") = false := by decide +kernel
      cases a
      · simp [cmpP, truth, getV, itemP, atP, ixP, litP, e1, e2, eqP, kOut_ret (d := f_tick_worth) rfl, cleanB, clean]
        exact hQ
      · simp [cmpP, truth, getV, itemP, atP, ixP, litP, e1, e2, e3, eqP, kOut_ret (d := f_tick_worth) rfl, cleanB, clean]
        exact hQ
end K07
set_option maxRecDepth 100000
set_option maxHeartbeats 0
namespace K07
open PySem OI
def Kd.Ok : Kd → Prop
  | .num i => i.natAbs < 2 ^ 60
  | .name _ => True
  | .tick _ n0 ns => n0.length + 13 * ns.length ≤ 1000 ∧ ns.length ≤ 900
def Ex.Ok : Ex → Prop
  | .leaf k => k.Ok
  | .op _ l r => l.Ok ∧ r.Ok
theorem sp_atom {n : Nat} {ks vs es ws : List PV} {W : Str → Option Int} {D : Str → Option (Int × Int)} {k : Kd} {Q : PV × Option PV → Prop} (w : Wd ks vs W) (de : Ed es ws D) (ok : k.Ok)
    (hQ : Q (optI (k.ev W D), none)) : wp (callN TT (n + 3) 2 [.dct false ks vs, .dct false es ws, k.pv]) Q := by
  have e1 : shp0 (PV.str (Str.ofString "begin")) = true := by decide +kernel
  have e2 : shp0 (PV.str (Str.ofString "after")) = true := by decide +kernel
  have e3 : shp0 (PV.str (Str.ofString "number")) = true := by decide +kernel
  have e4 : shp0 (PV.str (Str.ofString "name")) = true := by decide +kernel
  have n1 : (Str.ofString "begin" == Str.ofString "number") = false := by decide +kernel
  have n2 : (Str.ofString "after" == Str.ofString "number") = false := by decide +kernel
  have n3 : (Str.ofString "name" == Str.ofString "number") = false := by decide +kernel
  have n4 : (Str.ofString "begin" == Str.ofString "name") = false := by decide +kernel
  have n5 : (Str.ofString "after" == Str.ofString "name") = false := by decide +kernel
  have n6 : (Str.ofString "begin" == Str.ofString "after") = false := by decide +kernel
  rw [wp_fn (d := f_atom_worth) rfl rfl]
  cases k with
  | num i =>
    simp [f_atom_worth_start, b_atom_worth, Kd.pv, getV, setV, itemP, atP, ixP, cmpP, truth, litP, e3, eqP, kOut_ret (d := f_atom_worth) rfl, cleanB, clean]
    exact hQ
  | name s =>
    simp [f_atom_worth_start, b_atom_worth, Kd.pv, getV, setV, itemP, atP, ixP, cmpP, truth, litP, e1, e2, e3, e4, n3, n4, n5, eqP, kOut_ret (d := f_atom_worth) rfl, cleanB, clean, recvOk, Meth.ty, methP, getP, isNon, isKey, isKey1, w.at_]
    simp only [Kd.ev] at hQ
    cases hw : W s with
    | none => rw [hw] at hQ; simp [cleanB, clean]; exact hQ
    | some i => rw [hw] at hQ; simp [cleanB, clean]; exact hQ
  | tick a n0 ns =>
    have hc : cleanB 0 (optI (Kd.ev W D (Kd.tick a n0 ns))) = true := by
      cases Kd.ev W D (Kd.tick a n0 ns) <;> simp [optI, cleanB, clean]
    cases a
    · simp [f_atom_worth_start, b_atom_worth, Kd.pv, getV, setV, itemP, atP, ixP, cmpP, truth, litP, e1, e2, e3, e4, n1, n2, n6, eqP]
      refine wpE_call ?_
      simp [getV]
      refine kCall_ctx (d := f_tick_worth) rfl rfl (sp_tick (a := false) w de ok.1 ok.2 ?_)
      simp [writeBack, kOut_ret (d := f_atom_worth) rfl, hc]
      exact hQ
    · simp [f_atom_worth_start, b_atom_worth, Kd.pv, getV, setV, itemP, atP, ixP, cmpP, truth, litP, e1, e2, e3, e4, n1, n2, n6, eqP]
      refine wpE_call ?_
      simp [getV]
      refine kCall_ctx (d := f_tick_worth) rfl rfl (sp_tick (a := true) w de ok.1 ok.2 ?_)
      simp [writeBack, kOut_ret (d := f_atom_worth) rfl, hc]
      exact hQ
end K07
set_option maxRecDepth 100000
set_option maxHeartbeats 0
namespace K07
open PySem OI
/-- what waits: a sign, a tree -/
inductive It where
  | sg (o : Op3) | tr (e : Ex)
def It.pv : It → PV
  | .sg o => .str (Str.ofString o.s)
  | .tr e => e.pv
def Ex.bits : Ex → Nat
  | .leaf _ => 60
  | .op _ l r => l.bits + r.bits + 1
def Ex.size : Ex → Nat
  | .leaf _ => 1
  | .op _ l r => l.size + r.size + 2
def It.bits : It → Nat
  | .sg _ => 1
  | .tr e => e.bits
def It.size : It → Nat
  | .sg _ => 1
  | .tr e => e.size
def It.Ok : It → Prop
  | .sg _ => True
  | .tr e => e.Ok
theorem Ex.size_pos : ∀ e : Ex, 1 ≤ e.size
  | .leaf _ => Nat.le_refl _
  | .op _ _ _ => by simp only [Ex.size]; omega
theorem It.size_pos : ∀ e : It, 1 ≤ e.size
  | .sg _ => Nat.le_refl _
  | .tr e => e.size_pos
def sumB (l : List It) : Nat := (l.map It.bits).sum
def sumS (l : List It) : Nat := (l.map It.size).sum
def sumX (l : List Ex) : Nat := (l.map Ex.bits).sum
/-- what comes of it: items, top first; found, top first -/
def rebuild : List It → List Ex → List Ex
  | [], f => f
  | .tr t :: is, f => rebuild is (t :: f)
  | .sg o :: is, r :: l :: f => rebuild is (.op o l r :: f)
  | .sg _ :: _, _ => []
theorem rebuild_op {o : Op3} {l r : Ex} {is : List It} {f : List Ex} : rebuild (.tr l :: .tr r :: .sg o :: is) f = rebuild (.tr (.op o l r) :: is) f := rfl
theorem Kd.bd {ks vs es ws : List PV} {W : Str → Option Int} {D : Str → Option (Int × Int)} (w : Wd ks vs W) (de : Ed es ws D) : ∀ {k : Kd}, k.Ok → Bd 60 (k.ev W D)
  | .num i, h => fun j e => by cases e; exact h
  | .name s, h => fun j e => Nat.lt_of_lt_of_le (w.small s j e) (by decide)
  | .tick a n0 ns, h => fun j e => by
    simp only [Kd.ev] at e
    cases hL : labS W n0 ns with
    | none => rw [hL] at e; simp at e
    | some s =>
      rw [hL] at e
      simp only [Option.map_eq_some_iff] at e
      obtain ⟨p, hp, e⟩ := e
      have := de.small s p hp
      refine Nat.lt_of_lt_of_le ?_ (show 10 ^ 12 ≤ 2 ^ 60 by decide)
      rw [← e]
      split
      · exact this.2
      · exact this.1
theorem Ex.bd {ks vs es ws : List PV} {W : Str → Option Int} {D : Str → Option (Int × Int)} (w : Wd ks vs W) (de : Ed es ws D) : ∀ {e : Ex}, e.Ok → Bd e.bits (e.ev W D)
  | .leaf k, h => Kd.bd w de (k := k) h
  | .op o l r, h => bd_ap (Ex.bd w de (e := l) h.1) (Ex.bd w de (e := r) h.2)
theorem clean_optI (v : Option Int) {n : Nat} : clean (n + 1) (optI v) = true := by cases v <;> rfl
theorem clean_optIs {n : Nat} (told : List (Option Int)) : ∀ x ∈ told.map optI, clean (n + 1) x = true := by
  intro x hx
  obtain ⟨v, _, rfl⟩ := List.mem_map.mp hx
  exact clean_optI v
def IAll (W : Str → Option Int) (D : Str → Option (Int × Int)) (s t x : PV) (ex : Ex) (n : Nat) (env : OI.Env) : Prop :=
  ∃ (wt : List It) (fd : List Ex) (told : List (Option Int)) (a b : Option PV), env = [some s, some t, some x, some (.lst (wt.reverse.map It.pv)), some (.lst ((fd.map fun e => optI (e.ev W D)).reverse)), some (.lst (told.map optI)), a, b] ∧
    rebuild wt fd = [ex] ∧ (∀ i ∈ wt, i.Ok) ∧ (∀ e ∈ fd, e.Ok) ∧ sumB wt + sumX fd ≤ 900000 ∧ n = sumS wt ∧ fd.length + sumS wt ≤ 100000 ∧ told.length + sumS wt ≤ 100000 ∧ (wt = [] → told.getLast? = some (ex.ev W D)) ∧
    (∀ (f0 : Ex) (fs : List Ex), fd = f0 :: fs → told.getLast? = some (f0.ev W D))
theorem Op3.str (o : Op3) : OI.isTy (.str (Str.ofString o.s)) .str = true := rfl
theorem len_le_sumS : ∀ wt : List It, wt.length ≤ sumS wt
  | [] => Nat.le_refl _
  | i :: is => by
    have := len_le_sumS is
    have h := i.size_pos
    have e : sumS (i :: is) = i.size + sumS is := by simp [sumS]
    rw [e, List.length_cons]
    omega
theorem pvs_tup (e : Ex) : ∃ xs, e.pv = .tup xs := by
  cases e with
  | leaf k => cases k <;> exact ⟨_, rfl⟩
  | op o l r => exact ⟨_, rfl⟩
theorem sp_all {k : Nat} {ks vs es ws : List PV} {W : Str → Option Int} {D : Str → Option (Int × Int)} {ex : Ex} {Q : PV × Option PV → Prop} (w : Wd ks vs W) (de : Ed es ws D) (ok : ex.Ok) (hb : ex.bits ≤ 900000) (hsz : ex.size ≤ 100000)
    (hQ : ∀ told : List (Option Int), told.getLast? = some (ex.ev W D) → Q (.lst (told.map optI), none)) : wp (callN TT (k + 4) 4 [.dct false ks vs, .dct false es ws, ex.pv]) Q := by
  rw [wp_fn (d := f_all_worths) rfl rfl]
  simp [f_all_worths_start, b_all_worths, getV, setV, setVs]
  refine wp_whl (IAll W D (.dct false ks vs) (.dct false es ws) ex.pv ex) (n := ex.size) ?_ ?_
  · refine ⟨[.tr ex], [], [], none, none, rfl, rfl, by simpa [It.Ok] using ok, by simp, by simpa [sumB, sumX, It.bits] using hb, by simp [sumS, It.size], by simpa [sumS, It.size] using hsz, by simpa [sumS, It.size] using hsz, by simp, by simp⟩
  · rintro n env ⟨wt, fd, told, a, b, rfl, hr, hw, hf, hB, rfl, hF, hT, hE, hL⟩
    simp [getV, truth]
    cases wt with
    | nil =>
      simp [getV, setV, kOut_ret (d := f_all_worths) rfl, cleanB]
      refine ⟨fun v hv => clean_optI v, hQ _ (hE rfl)⟩
    | cons i wt =>
      have hlen := len_le_sumS wt
      have hSi : sumS (i :: wt) = i.size + sumS wt := by simp [sumS]
      have hBi : sumB (i :: wt) = i.bits + sumB wt := by simp [sumB]
      have hp := i.size_pos
      rw [hSi] at hF hT
      rw [hBi] at hB
      simp [getV, setV, readPath, writePath, getPath, putPath, Pr.ks, OI.isLst, mutP]
      cases i with
      | sg o =>
        simp [It.pv, OI.isTy]
        match fd, hr, hf, hB, hF, hL with
        | r :: l :: fd, hr, hf, hB, hF, hL =>
          simp [getV, setV, readPath, writePath, getPath, putPath, Pr.ks, OI.isLst, mutP]
          simp [truth, getV, setV, readPath, writePath, getPath, putPath, Pr.ks, OI.isLst, mutP]
          refine wpE_call ?_
          simp [truth, getV, setV, readPath, writePath, getPath, putPath, Pr.ks, OI.isLst, mutP]
          have hBl : sumX (r :: l :: fd) = r.bits + l.bits + sumX fd := by simp [sumX]; omega
          rw [hBl] at hB
          simp only [It.bits, It.size] at hB hF hT hSi
          simp at hF
          refine kCall_ctx (d := f_joined_worth) rfl rfl (sp_join3 (Ex.bd w de (hf l (by simp))) (Ex.bd w de (hf r (by simp))) (by omega) ?_)
          simp [writeBack, truth, getV, setV, readPath, writePath, getPath, putPath, Pr.ks, OI.isLst, mutP]
          have hlt : fd.length < 16777216 := by omega
          have hlt2 : told.length < 16777216 := by omega
          simp [hlt, hlt2, writeBack, truth, getV, setV, readPath, writePath, getPath, putPath, Pr.ks, OI.isLst, mutP]
          refine ⟨sumS wt, by omega, wt, .op o l r :: fd, told ++ [o.ap (l.ev W D) (r.ev W D)], _, _, by simp [Ex.ev]; exact ⟨rfl, rfl⟩, hr, fun i hi => hw i (by simp [hi]), ?_, ?_, rfl, by simp; omega, by simp; omega, ?_, ?_⟩
          · intro e he
            rcases List.mem_cons.mp he with rfl | he
            · exact ⟨hf l (by simp), hf r (by simp)⟩
            · exact hf e (by simp [he])
          · have : sumX (.op o l r :: fd) = l.bits + r.bits + 1 + sumX fd := by simp [sumX, Ex.bits]
            omega
          · rintro rfl
            simp [rebuild] at hr
            rw [← hr.1]
            simp [Ex.ev]
          · intro f0 fs e
            cases e
            simp [Ex.ev]
        | [_], hr, _, _, _, _ => simp [rebuild] at hr
        | [], hr, _, _, _, _ => simp [rebuild] at hr
      | tr e =>
        obtain ⟨xs, hxs⟩ := pvs_tup e
        simp [It.pv, hxs, OI.isTy]
        cases e with
        | leaf kd =>
          simp [Ex.pv] at hxs
          have e3 : shp0 (PV.int 3) = true := by decide +kernel
          have e2 : shp0 (PV.int 2) = true := by decide +kernel
          have hl : xs.length = 2 := by
            cases kd <;> simp [Kd.pv] at hxs <;> subst hxs <;> rfl
          simp [truth, getV, setV, primP, cmpP, eqP, hl, e2, e3, readPath, writePath, getPath, putPath, Pr.ks, OI.isLst, mutP, itemP, atP, ixP]
          refine wpE_call ?_
          simp [getV]
          rw [← hxs]
          simp only [It.size, Ex.size] at hF hT
          have hlt : fd.length < 16777216 := by omega
          have hlt2 : told.length < 16777216 := by omega
          refine kCall_ctx (d := f_atom_worth) rfl rfl (sp_atom w de (hw (.tr (.leaf kd)) (by simp)) ?_)
          simp [hlt, hlt2, writeBack, truth, getV, setV, readPath, writePath, getPath, putPath, Pr.ks, OI.isLst, mutP]
          refine ⟨sumS wt, by omega, wt, .leaf kd :: fd, told ++ [kd.ev W D], _, _, by simp [Ex.ev]; exact ⟨rfl, rfl⟩, hr, fun i hi => hw i (by simp [hi]), ?_, ?_, rfl, by simp; omega, by simp; omega, ?_, ?_⟩
          · intro e he
            rcases List.mem_cons.mp he with rfl | he
            · exact hw (.tr (.leaf kd)) (by simp)
            · exact hf e he
          · have : sumX (.leaf kd :: fd) = 60 + sumX fd := by simp [sumX, Ex.bits]
            simp only [It.bits, Ex.bits] at hB
            omega
          · rintro rfl
            simp [rebuild] at hr
            rw [← hr.1]
            simp [Ex.ev]
          · intro f0 fs e
            cases e
            simp [Ex.ev]
        | op o l r =>
          simp [Ex.pv] at hxs
          subst hxs
          simp [truth, getV, setV, primP, cmpP, eqP, readPath, writePath, getPath, putPath, Pr.ks, OI.isLst, mutP, itemP, atP, ixP]
          have e3 : shp0 (PV.int 3) = true := by decide +kernel
          refine ⟨by omega, l.size + r.size + 1 + sumS wt, by simp [sumS, It.size, Ex.size]; try omega, .tr l :: .tr r :: .sg o :: wt, fd, told, _, _, by simp [It.pv]; exact ⟨rfl, rfl⟩, hr, ?_, hf, ?_, by simp [sumS, It.size]; omega, ?_, ?_, by simp, hL⟩
          · intro i hi
            have ho : (It.tr (.op o l r)).Ok := hw _ (by simp)
            simp only [List.mem_cons] at hi
            rcases hi with rfl | rfl | rfl | hi
            · exact ho.1
            · exact ho.2
            · trivial
            · exact hw i (by simp [hi])
          · have : sumB (.tr l :: .tr r :: .sg o :: wt) = l.bits + r.bits + 1 + sumB wt := by simp [sumB, It.bits]; omega
            simp only [It.bits, Ex.bits] at hB
            omega
          · simp only [It.size, Ex.size] at hF
            simp [sumS, It.size] at hF ⊢
            omega
          · simp only [It.size, Ex.size] at hT
            simp [sumS, It.size] at hT ⊢
            omega
end K07
namespace K07
open PySem OI
theorem last_of {told : List (Option Int)} {v : Option Int} (h : told.getLast? = some v) : ∃ t : List (Option Int), told.map optI = t.map optI ++ [optI v] := by
  obtain ⟨t, rfl⟩ : ∃ t, told = t ++ [v] := by
    rcases List.eq_nil_or_concat told with rfl | ⟨t, x, rfl⟩
    · simp at h
    · simp at h
      exact ⟨t, by simp [h]⟩
  exact ⟨t, by simp⟩
theorem sp_worth {k : Nat} {ks vs es ws : List PV} {W : Str → Option Int} {D : Str → Option (Int × Int)} {ex : Ex} {Q : PV × Option PV → Prop} (w : Wd ks vs W) (de : Ed es ws D) (ok : ex.Ok) (hb : ex.bits ≤ 900000) (hsz : ex.size ≤ 100000)
    (hQ : Q (optI (ex.ev W D), none)) : wp (callN TT (k + 5) 5 [.dct false ks vs, .dct false es ws, ex.pv]) Q := by
  rw [wp_fn (d := f_worth_of) rfl rfl]
  simp [f_worth_of_start, b_worth_of]
  refine wpE_call ?_
  simp [getV]
  refine kCall_ctx (d := f_all_worths) rfl rfl (sp_all w de ok hb hsz fun told h => ?_)
  obtain ⟨t, ht⟩ := last_of h
  have hc : cleanB 0 (optI (ex.ev W D)) = true := clean_optI _
  rw [ht]
  simp [writeBack, kOut_ret (d := f_worth_of) rfl, hc]
  exact hQ
end K07
set_option maxRecDepth 100000
set_option maxHeartbeats 0
namespace OI
open PySem
mutual
def psz : PV → Nat
  | .tup xs => 1 + pszs xs
  | _ => 1
def pszs : List PV → Nat
  | [] => 0
  | x :: xs => psz x + pszs xs
end
mutual
/-- a plainV value: None, truth, number, text, tuples of these -/
def plainV : PV → Bool
  | .non => true
  | .bl _ => true
  | .int _ => true
  | .str x => x.cps.all (· < 0x110000)
  | .tup xs => plainVs xs
  | _ => false
def plainVs : List PV → Bool
  | [] => true
  | x :: xs => plainV x && plainVs xs
end
theorem plains_mem : ∀ {xs : List PV}, plainVs xs = true → ∀ x ∈ xs, plainV x = true
  | x :: xs, h, y, hy => by
    simp only [plainVs, Bool.and_eq_true] at h
    rcases List.mem_cons.mp hy with rfl | hy
    · exact h.1
    · exact plains_mem h.2 y hy
theorem psz_pos : ∀ v : PV, 1 ≤ psz v := by
  intro v
  cases v <;> simp [psz]
theorem pszs_sum : ∀ xs : List PV, pszs xs = (xs.map psz).sum
  | [] => rfl
  | x :: xs => by simp [pszs, pszs_sum xs]
theorem sum_take_le : ∀ (xs : List Nat) (i : Nat), (xs.take i).sum ≤ xs.sum
  | [], i => by simp
  | x :: xs, 0 => by simp
  | x :: xs, i + 1 => by
    have := sum_take_le xs i
    simp
    exact this
theorem len_le_psz : ∀ xs : List PV, xs.length ≤ (xs.map psz).sum
  | [] => Nat.le_refl _
  | x :: xs => by
    have := len_le_psz xs
    have := psz_pos x
    simp
    omega
end OI
namespace K07
open PySem OI
def dbl (v : PV) : PV := .tup [v, v]
def ISame (s t : PV) (n : Nat) (env : OI.Env) : Prop := ∃ (vs : List PV) (a b c : Option PV), env = [some s, some t, some (.lst (vs.map dbl)), a, b, c] ∧ (∀ v ∈ vs, plainV v = true) ∧ n = (vs.map psz).sum ∧ n ≤ 1000000
def ISame2 (s t x : PV) (vs xs : List PV) (i : Nat) (env : OI.Env) : Prop := ∃ c, env = [some s, some t, some (.lst ((vs ++ xs.take i).map dbl)), some x, some x, c]
theorem sp_same {k : Nat} {v : PV} {Q : PV × Option PV → Prop} (hp : plainV v = true) (hs : psz v ≤ 1000000) (hQ : Q (.bl true, none)) : wp (callN TT (k + 1) 8 [v, v]) Q := by
  rw [wp_fn (d := f__law_same) rfl rfl]
  simp [f__law_same_start, b__law_same, getV, setV]
  refine wp_whl (ISame v v) (n := psz v) ?_ ?_
  · exact ⟨[v], none, none, none, rfl, by simpa using hp, by simp, hs⟩
  · rintro n env ⟨vs, a, b, c, rfl, hv, rfl, hn⟩
    rcases List.eq_nil_or_concat vs with rfl | ⟨vs, x, rfl⟩
    · simp [getV, primP, cmpP, truth, kOut_ret (d := f__law_same) rfl, cleanB, clean]
      exact hQ
    · simp at hn
      have hx : plainV x = true := hv x (by simp)
      have hv' : ∀ v ∈ vs, plainV v = true := fun v h => hv v (by simp [h])
      have hpos := psz_pos x
      have hlen := len_le_psz vs
      have hI : ∀ (b c d : Option PV), ∃ m, m < ((vs ++ [x]).map psz).sum ∧ ISame v v m [some v, some v, some (.lst (vs.map dbl)), b, c, d] := fun b c d =>
        ⟨(vs.map psz).sum, by simp; omega, vs, b, c, d, rfl, hv', rfl, by omega⟩
      simp [dbl, getV, setV, primP, cmpP, truth, readPath, writePath, getPath, putPath, Pr.ks, OI.isLst, mutP]
      cases x with
      | non =>
        simp [getV, setV, cmpP, truth, isiP, OI.isTy, eqP]
        simpa using hI _ _ _
      | bl t =>
        simp [getV, setV, cmpP, truth, isiP, OI.isTy, eqP]
        simpa using hI _ _ _
      | int t =>
        simp [getV, setV, cmpP, truth, isiP, OI.isTy, eqP]
        simpa using hI _ _ _
      | str t =>
        have ht : shp0 (.str t) = true := hx
        simp [getV, setV, cmpP, truth, isiP, OI.isTy, eqP, ht]
        simpa using hI _ _ _
      | tup xs =>
        have hz : psz (.tup xs) = 1 + (xs.map psz).sum := by simp [psz, pszs_sum]
        have hlx := len_le_psz xs
        rw [hz] at hn
        have hsm : smallP (xs.length : Int) := by constructor <;> omega
        simp [getV, setV, cmpP, truth, isiP, OI.isTy, primP, iterP, itemsOf, eqP, hsm]
        refine wp_range (ISame2 v v (.tup xs) vs xs) ⟨c, by simp [dbl]⟩ ?_ ?_
        · rintro i env hi ⟨c, rfl⟩
          have hi : i < xs.length := by omega
          have hix : ixP xs.length (i : Int) = some i := by simp [ixP, hi]
          have hl2 : vs.length + min i xs.length < 16777216 := by omega
          simp [getV, setV, itemP, atP, hix, hi, readPath, writePath, getPath, putPath, Pr.ks, OI.isLst, mutP, hl2]
          have e := List.take_succ_eq_append_getElem hi
          have hmap : (vs ++ xs.take (i + 1)).map dbl = (vs ++ xs.take i).map dbl ++ [.tup [xs[i], xs[i]]] := by rw [e, ← List.append_assoc, List.map_append]; rfl
          exact ⟨some (.int i), by rw [hmap]; simp⟩
        · rintro env ⟨c, rfl⟩
          have : xs.take xs.length = xs := List.take_length
          simp
          refine ⟨((vs ++ xs).map psz).sum, by simp [hz], vs ++ xs, _, _, _, by simp [this]; exact ⟨rfl, rfl, rfl⟩, ?_, rfl, by simp; omega⟩
          intro y hy
          rcases List.mem_append.mp hy with h | h
          · exact hv' y h
          · exact plains_mem (by simpa [plainV] using hx) y h
      | lst xs => simp [plainV] at hx
      | dct t xs ys => simp [plainV] at hx
      | it xs => simp [plainV] at hx
      | exc t xs => simp [plainV] at hx
end K07
set_option maxRecDepth 100000
set_option maxHeartbeats 0
namespace K07
open PySem OI
/-- as they are seen -/
def Ex.nodes : Ex → List Ex
  | .leaf k => [.leaf k]
  | .op o l r => .op o l r :: (r.nodes ++ l.nodes)
/-- those within ahead of the whole -/
def Ex.post : Ex → List Ex
  | .leaf k => [.leaf k]
  | .op o l r => l.post ++ r.post ++ [.op o l r]
theorem Ex.nodes_rev : ∀ e : Ex, e.nodes.reverse = e.post
  | .leaf _ => rfl
  | .op o l r => by simp [Ex.nodes, Ex.post, l.nodes_rev, r.nodes_rev]
theorem Ex.nodes_len : ∀ e : Ex, e.nodes.length ≤ e.size
  | .leaf _ => Nat.le_refl _
  | .op o l r => by
    have := l.nodes_len
    have := r.nodes_len
    simp [Ex.nodes, Ex.size]
    omega
def INod (x : PV) (ex : Ex) (n : Nat) (env : OI.Env) : Prop := ∃ (ts rows : List Ex) (a : Option PV), env = [some x, some (.lst (ts.reverse.map Ex.pv)), some (.lst (rows.map Ex.pv)), a] ∧ rows ++ ts.flatMap Ex.nodes = ex.nodes ∧ n = (ts.map Ex.size).sum ∧ rows.length + n ≤ 100000
theorem sizes_len : ∀ ts : List Ex, ts.length ≤ (ts.map Ex.size).sum
  | [] => Nat.le_refl _
  | t :: ts => by
    have := sizes_len ts
    have := t.size_pos
    simp
    omega
theorem Ex.pv_clean : ∀ {n : Nat} {e : Ex}, e.size + 2 ≤ n → clean n e.pv = true
  | 0, e, h => by omega
  | 1, e, h => by omega
  | 2, e, h => by have := e.size_pos; omega
  | n + 3, .leaf k, h => by
    cases k <;> simp [Ex.pv, Kd.pv, clean]
  | n + 3, .op o l r, h => by
    simp only [Ex.size] at h
    have h1 := Ex.pv_clean (n := n + 2) (e := l) (by omega)
    have h2 := Ex.pv_clean (n := n + 2) (e := r) (by omega)
    simp [Ex.pv, clean, h1, h2]
theorem Ex.nodes_size : ∀ {e x : Ex}, x ∈ e.nodes → x.size ≤ e.size
  | .leaf k, x, h => by
    simp [Ex.nodes] at h
    subst h
    exact Nat.le_refl _
  | .op o l r, x, h => by
    simp [Ex.nodes] at h
    rcases h with rfl | h | h
    · exact Nat.le_refl _
    · have := Ex.nodes_size h
      simp [Ex.size]
      omega
    · have := Ex.nodes_size h
      simp [Ex.size]
      omega
theorem sp_nodes {k : Nat} {ex : Ex} {Q : PV × Option PV → Prop} (hsz : ex.size ≤ 50) (hQ : Q (.lst (ex.post.map Ex.pv), none)) : wp (callN TT (k + 1) 11 [ex.pv]) Q := by
  rw [wp_fn (d := f__law_nodes) rfl rfl]
  simp [f__law_nodes_start, b__law_nodes, getV, setV]
  refine wp_whl (INod ex.pv ex) (n := ex.size) ?_ ?_
  · exact ⟨[ex], [], none, rfl, by simp, by simp, by simp; omega⟩
  · rintro n env ⟨ts, rows, a, rfl, hr, rfl, hn⟩
    cases ts with
    | nil =>
      simp at hr
      simp [getV, setV, setVs, dictP, itemP_dctE, cutP_take, cutP_drop, cutP_mid, primP, cmpP, truth, litP, binP, eqP, readPath, writePath, getPath, putPath, setP_dct, Pr.ks, Kc.v, OI.isLst, OI.isCnt, mutP_append, mutP_extend, mutP_pop, mutP_reverse, iterP, itemsOf, isiP, OI.isTy, slcP, revP, recvOk, Meth.ty, methPre, methP, getP, isNon, isKey, isKey1, seqP, writeBack, augP, kOut_ret (d := f__law_nodes) rfl, cleanB]
      refine ⟨?_, ?_⟩
      · intro x hx
        rw [hr] at hx
        have := Ex.nodes_size hx
        exact Ex.pv_clean (by omega)
      · rw [hr, ← List.map_reverse, Ex.nodes_rev]
        exact hQ
    | cons t ts =>
      have hlen := sizes_len ts
      simp at hn
      have hlt : rows.length < 16777216 := by omega
      simp [getV, setV, setVs, dictP, itemP_dctE, cutP_take, cutP_drop, cutP_mid, primP, cmpP, truth, litP, binP, eqP, readPath, writePath, getPath, putPath, setP_dct, Pr.ks, Kc.v, OI.isLst, OI.isCnt, mutP_append, mutP_extend, mutP_pop, mutP_reverse, iterP, itemsOf, isiP, OI.isTy, slcP, revP, recvOk, Meth.ty, methPre, methP, getP, isNon, isKey, isKey1, seqP, writeBack, augP, hlt]
      cases t with
      | leaf kd =>
        have hl : ∃ xs, kd.pv = .tup xs ∧ xs.length = 2 := by cases kd <;> exact ⟨_, rfl, rfl⟩
        obtain ⟨xs, hx, hl⟩ := hl
        simp only [Ex.size] at hn
        simp [getV, setV, setVs, dictP, itemP_dctE, cutP_take, cutP_drop, cutP_mid, primP, cmpP, truth, litP, binP, eqP, readPath, writePath, getPath, putPath, setP_dct, Pr.ks, Kc.v, OI.isLst, OI.isCnt, mutP_append, mutP_extend, mutP_pop, mutP_reverse, iterP, itemsOf, isiP, OI.isTy, slcP, revP, recvOk, Meth.ty, methPre, methP, getP, isNon, isKey, isKey1, seqP, writeBack, augP, Ex.pv, hx, hl]
        refine ⟨(ts.map Ex.size).sum, by simp [Ex.size], ts, rows ++ [.leaf kd], some (.tup xs), by simp [Ex.pv, hx], ?_, rfl, by simp; omega⟩
        rw [← hr]
        simp [Ex.nodes]
      | op o l r =>
        simp only [Ex.size] at hn
        have hz : ts.length ≤ 16777214 := by omega
        simp [getV, setV, setVs, dictP, itemP_dctE, cutP_take, cutP_drop, cutP_mid, primP, cmpP, truth, litP, binP, eqP, readPath, writePath, getPath, putPath, setP_dct, Pr.ks, Kc.v, OI.isLst, OI.isCnt, mutP_append, mutP_extend, mutP_pop, mutP_reverse, iterP, itemsOf, isiP, OI.isTy, slcP, revP, recvOk, Meth.ty, methPre, methP, getP, isNon, isKey, isKey1, seqP, writeBack, augP, Ex.pv, hz]
        refine ⟨((r :: l :: ts).map Ex.size).sum, by simp [Ex.size]; omega, r :: l :: ts, rows ++ [.op o l r], some (.tup [.str (Str.ofString o.s), l.pv, r.pv]), by simp [Ex.pv], ?_, rfl, by simp; omega⟩
        rw [← hr]
        simp [Ex.nodes]
end K07
set_option maxRecDepth 100000
set_option maxHeartbeats 0
namespace K07
open PySem OI
def execT : List Ex → List Ex → List Ex
  | [], st => st
  | .leaf k :: rs, st => execT rs (.leaf k :: st)
  | .op o _ _ :: rs, r :: l :: st => execT rs (.op o l r :: st)
  | .op _ _ _ :: _, _ => []
theorem exec_post : ∀ (e : Ex) (rs st : List Ex), execT (e.post ++ rs) st = execT rs (e :: st)
  | .leaf k, rs, st => rfl
  | .op o l r, rs, st => by
    have e1 := exec_post l (r.post ++ (.op o l r :: rs)) st
    have e2 := exec_post r (.op o l r :: rs) (l :: st)
    simp only [Ex.post, List.append_assoc, List.singleton_append]
    rw [e1, e2]
    rfl
/-- a node's own bits -/
def Ex.own : Ex → Nat
  | .leaf _ => 60
  | .op _ _ _ => 1
def sumO (l : List Ex) : Nat := (l.map Ex.own).sum
theorem post_bits : ∀ e : Ex, sumO e.post = e.bits
  | .leaf _ => rfl
  | .op o l r => by
    have h1 := post_bits l
    have h2 := post_bits r
    simp [sumO] at h1 h2
    simp [sumO, Ex.post, h1, h2, Ex.bits, Ex.own]
    omega
theorem post_len : ∀ e : Ex, e.post.length ≤ e.size
  | .leaf _ => Nat.le_refl _
  | .op o l r => by
    have h1 := post_len l
    have h2 := post_len r
    simp [Ex.post, Ex.size]
    omega
theorem post_ok : ∀ {e : Ex}, e.Ok → ∀ x ∈ e.post, x.Ok
  | .leaf _, h, x, hx => by simp [Ex.post] at hx; subst hx; exact h
  | .op o l r, h, x, hx => by
    simp [Ex.post] at hx
    rcases hx with hx | hx | rfl
    · exact post_ok h.1 x hx
    · exact post_ok h.2 x hx
    · exact h
theorem optI_getD (v : Option Int) : (v.map PV.int).getD PV.non = optI v := by cases v <;> rfl
def IWorth (W : Str → Option Int) (D : Str → Option (Int × Int)) (s t x : PV) (ex : Ex) (rest : List PV) (env : OI.Env) : Prop :=
  ∃ (rs st : List Ex) (a b c d : Option PV), env = [some s, some t, some x, some (.lst ((st.map fun e => optI (e.ev W D)).reverse)), a, b, c, d] ∧ rest = rs.map Ex.pv ∧ execT rs st = [ex] ∧ (∀ e ∈ rs, e.Ok) ∧ (∀ e ∈ st, e.Ok) ∧
    sumO rs + sumX st ≤ 900000 ∧ rs.length + st.length ≤ 100000
theorem sp_lawworth {n : Nat} {ks vs es ws : List PV} {W : Str → Option Int} {D : Str → Option (Int × Int)} {ex : Ex} {Q : PV × Option PV → Prop} (w : Wd ks vs W) (de : Ed es ws D) (ok : ex.Ok) (hb : ex.bits ≤ 900000) (hsz : ex.size ≤ 50)
    (hQ : Q (optI (ex.ev W D), none)) : wp (callN TT (n + 2) 13 [.dct false ks vs, .dct false es ws, ex.pv]) Q := by
  rw [wp_fn (d := f__law_worth) rfl rfl]
  have hlen := post_len ex
  simp [f__law_worth_start, b__law_worth, getV, setV]
  refine wpE_call ?_
  simp [getV]
  refine kCall_ctx (d := f__law_nodes) rfl rfl (sp_nodes hsz ?_)
  simp [writeBack, itemsOf]
  refine wp_for (IWorth W D (.dct false ks vs) (.dct false es ws) ex.pv ex) ?_ ?_ ?_
  · refine ⟨ex.post, [], none, none, none, none, rfl, rfl, ?_, post_ok ok, by simp, by rw [post_bits]; simpa [sumX] using hb, by simp; omega⟩
    have := exec_post ex [] []
    simpa [execT] using this
  · rintro x xs env ⟨rs, st, a, b, c, d, rfl, hrs, he, ho, hst, hB, hL⟩
    cases rs with
    | nil => simp at hrs
    | cons t rs =>
      simp at hrs hL
      obtain ⟨rfl, rfl⟩ := hrs
      have ho' : ∀ e ∈ rs, e.Ok := fun e h => ho e (by simp [h])
      have hlt : st.length < 16777216 := by omega
      have e1 : (Str.ofString "name" == Str.ofString "number") = false := by decide +kernel
      have e2 : (Str.ofString "begin" == Str.ofString "number") = false := by decide +kernel
      have e3 : (Str.ofString "begin" == Str.ofString "name") = false := by decide +kernel
      have e4 : (Str.ofString "after" == Str.ofString "number") = false := by decide +kernel
      have e5 : (Str.ofString "after" == Str.ofString "name") = false := by decide +kernel
      have e6 : (Str.ofString "begin" == Str.ofString "after") = false := by decide +kernel
      have e7 : (Str.ofString "after" == Str.ofString "begin") = false := by decide +kernel
      cases t with
      | leaf kd =>
        have hk : kd.Ok := ho (.leaf kd) (by simp)
        have hB' : 60 + sumO rs + sumX st ≤ 900000 := by
          have : sumO (.leaf kd :: rs) = 60 + sumO rs := by simp [sumO, Ex.own]
          omega
        have fin : ∀ b c d : Option PV, IWorth W D (.dct false ks vs) (.dct false es ws) ex.pv ex (rs.map Ex.pv) [some (.dct false ks vs), some (.dct false es ws), some ex.pv, some (.lst ((st.map fun e => optI (e.ev W D)).reverse ++ [optI (kd.ev W D)])), some kd.pv, b, c, d] := fun b c d =>
          ⟨rs, .leaf kd :: st, _, b, c, d, by simp [Ex.ev]; rfl, rfl, he, ho', by
            intro e h
            rcases List.mem_cons.mp h with rfl | h
            · exact hk
            · exact hst e h, by simp [sumX, Ex.bits] at hB' ⊢; omega, by simp; omega⟩
        cases kd with
        | num i =>
          simp [getV, setV, setVs, dictP, itemP_dctE, cutP_take, cutP_drop, cutP_mid, primP, cmpP, truth, litP, binP, eqP, readPath, writePath, getPath, putPath, setP_dct, Pr.ks, Kc.v, OI.isLst, OI.isCnt, mutP_append, mutP_extend, mutP_pop, mutP_reverse, iterP, itemsOf, isiP, OI.isTy, slcP, revP, recvOk, Meth.ty, methPre, methP, getP, isNon, isKey, isKey1, seqP, writeBack, augP, Ex.pv, Kd.pv, hlt]
          exact fin b c d
        | name s =>
          simp [getV, setV, setVs, dictP, itemP_dctE, cutP_take, cutP_drop, cutP_mid, primP, cmpP, truth, litP, binP, eqP, readPath, writePath, getPath, putPath, setP_dct, Pr.ks, Kc.v, OI.isLst, OI.isCnt, mutP_append, mutP_extend, mutP_pop, mutP_reverse, iterP, itemsOf, isiP, OI.isTy, slcP, revP, recvOk, Meth.ty, methPre, methP, getP, isNon, isKey, isKey1, seqP, writeBack, augP, Ex.pv, Kd.pv, hlt, e1, w.at_, optI_getD]
          exact fin b c d
        | tick af n0 ns =>
          cases af
          · simp [getV, setV, setVs, dictP, itemP_dctE, cutP_take, cutP_drop, cutP_mid, primP, cmpP, truth, litP, binP, eqP, readPath, writePath, getPath, putPath, setP_dct, Pr.ks, Kc.v, OI.isLst, OI.isCnt, mutP_append, mutP_extend, mutP_pop, mutP_reverse, iterP, itemsOf, isiP, OI.isTy, slcP, revP, recvOk, Meth.ty, methPre, methP, getP, isNon, isKey, isKey1, seqP, writeBack, augP, Ex.pv, Kd.pv, hlt, e1, e2, e3, e4, e5, e6, e7]
            refine wpE_call ?_
            simp [getV, setV, setVs, dictP, itemP_dctE, cutP_take, cutP_drop, cutP_mid, primP, cmpP, truth, litP, binP, eqP, readPath, writePath, getPath, putPath, setP_dct, Pr.ks, Kc.v, OI.isLst, OI.isCnt, mutP_append, mutP_extend, mutP_pop, mutP_reverse, iterP, itemsOf, isiP, OI.isTy, slcP, revP, recvOk, Meth.ty, methPre, methP, getP, isNon, isKey, isKey1, seqP, writeBack, augP]
            refine kCall_ctx (d := f__law_laid_label) rfl rfl (sp_lawlab w hk.1 ?_)
            cases hL2 : labS W n0 ns with
            | none =>
              simp [getV, setV, setVs, dictP, itemP_dctE, cutP_take, cutP_drop, cutP_mid, primP, cmpP, truth, litP, binP, eqP, readPath, writePath, getPath, putPath, setP_dct, Pr.ks, Kc.v, OI.isLst, OI.isCnt, mutP_append, mutP_extend, mutP_pop, mutP_reverse, iterP, itemsOf, isiP, OI.isTy, slcP, revP, recvOk, Meth.ty, methPre, methP, getP, isNon, isKey, isKey1, seqP, writeBack, augP, optS, hlt]
              have := fin (some .non) c d
              simp [Kd.ev, hL2, optI, Kd.pv] at this
              exact this
            | some s =>
              simp [getV, setV, setVs, dictP, itemP_dctE, cutP_take, cutP_drop, cutP_mid, primP, cmpP, truth, litP, binP, eqP, readPath, writePath, getPath, putPath, setP_dct, Pr.ks, Kc.v, OI.isLst, OI.isCnt, mutP_append, mutP_extend, mutP_pop, mutP_reverse, iterP, itemsOf, isiP, OI.isTy, slcP, revP, recvOk, Meth.ty, methPre, methP, getP, isNon, isKey, isKey1, seqP, writeBack, augP, optS, hlt, de.at_]
              cases hD : D s with
              | none =>
                simp [getV, setV, setVs, dictP, itemP_dctE, cutP_take, cutP_drop, cutP_mid, primP, cmpP, truth, litP, binP, eqP, readPath, writePath, getPath, putPath, setP_dct, Pr.ks, Kc.v, OI.isLst, OI.isCnt, mutP_append, mutP_extend, mutP_pop, mutP_reverse, iterP, itemsOf, isiP, OI.isTy, slcP, revP, recvOk, Meth.ty, methPre, methP, getP, isNon, isKey, isKey1, seqP, writeBack, augP, hlt]
                have := fin (some .non) c d
                simp [Kd.ev, hL2, hD, optI, Kd.pv] at this
                exact this
              | some p =>
                simp [getV, setV, setVs, dictP, itemP_dctE, cutP_take, cutP_drop, cutP_mid, primP, cmpP, truth, litP, binP, eqP, readPath, writePath, getPath, putPath, setP_dct, Pr.ks, Kc.v, OI.isLst, OI.isCnt, mutP_append, mutP_extend, mutP_pop, mutP_reverse, iterP, itemsOf, isiP, OI.isTy, slcP, revP, recvOk, Meth.ty, methPre, methP, getP, isNon, isKey, isKey1, seqP, writeBack, augP, hlt, e6]
                have := fin (some (.tup [.int p.1, .int p.2])) c d
                simp [Kd.ev, hL2, hD, optI, Kd.pv] at this
                exact this
          · simp [getV, setV, setVs, dictP, itemP_dctE, cutP_take, cutP_drop, cutP_mid, primP, cmpP, truth, litP, binP, eqP, readPath, writePath, getPath, putPath, setP_dct, Pr.ks, Kc.v, OI.isLst, OI.isCnt, mutP_append, mutP_extend, mutP_pop, mutP_reverse, iterP, itemsOf, isiP, OI.isTy, slcP, revP, recvOk, Meth.ty, methPre, methP, getP, isNon, isKey, isKey1, seqP, writeBack, augP, Ex.pv, Kd.pv, hlt, e1, e2, e3, e4, e5, e6, e7]
            refine wpE_call ?_
            simp [getV, setV, setVs, dictP, itemP_dctE, cutP_take, cutP_drop, cutP_mid, primP, cmpP, truth, litP, binP, eqP, readPath, writePath, getPath, putPath, setP_dct, Pr.ks, Kc.v, OI.isLst, OI.isCnt, mutP_append, mutP_extend, mutP_pop, mutP_reverse, iterP, itemsOf, isiP, OI.isTy, slcP, revP, recvOk, Meth.ty, methPre, methP, getP, isNon, isKey, isKey1, seqP, writeBack, augP]
            refine kCall_ctx (d := f__law_laid_label) rfl rfl (sp_lawlab w hk.1 ?_)
            cases hL2 : labS W n0 ns with
            | none =>
              simp [getV, setV, setVs, dictP, itemP_dctE, cutP_take, cutP_drop, cutP_mid, primP, cmpP, truth, litP, binP, eqP, readPath, writePath, getPath, putPath, setP_dct, Pr.ks, Kc.v, OI.isLst, OI.isCnt, mutP_append, mutP_extend, mutP_pop, mutP_reverse, iterP, itemsOf, isiP, OI.isTy, slcP, revP, recvOk, Meth.ty, methPre, methP, getP, isNon, isKey, isKey1, seqP, writeBack, augP, optS, hlt]
              have := fin (some .non) c d
              simp [Kd.ev, hL2, optI, Kd.pv] at this
              exact this
            | some s =>
              simp [getV, setV, setVs, dictP, itemP_dctE, cutP_take, cutP_drop, cutP_mid, primP, cmpP, truth, litP, binP, eqP, readPath, writePath, getPath, putPath, setP_dct, Pr.ks, Kc.v, OI.isLst, OI.isCnt, mutP_append, mutP_extend, mutP_pop, mutP_reverse, iterP, itemsOf, isiP, OI.isTy, slcP, revP, recvOk, Meth.ty, methPre, methP, getP, isNon, isKey, isKey1, seqP, writeBack, augP, optS, hlt, de.at_]
              cases hD : D s with
              | none =>
                simp [getV, setV, setVs, dictP, itemP_dctE, cutP_take, cutP_drop, cutP_mid, primP, cmpP, truth, litP, binP, eqP, readPath, writePath, getPath, putPath, setP_dct, Pr.ks, Kc.v, OI.isLst, OI.isCnt, mutP_append, mutP_extend, mutP_pop, mutP_reverse, iterP, itemsOf, isiP, OI.isTy, slcP, revP, recvOk, Meth.ty, methPre, methP, getP, isNon, isKey, isKey1, seqP, writeBack, augP, hlt]
                have := fin (some .non) c d
                simp [Kd.ev, hL2, hD, optI, Kd.pv] at this
                exact this
              | some p =>
                simp [getV, setV, setVs, dictP, itemP_dctE, cutP_take, cutP_drop, cutP_mid, primP, cmpP, truth, litP, binP, eqP, readPath, writePath, getPath, putPath, setP_dct, Pr.ks, Kc.v, OI.isLst, OI.isCnt, mutP_append, mutP_extend, mutP_pop, mutP_reverse, iterP, itemsOf, isiP, OI.isTy, slcP, revP, recvOk, Meth.ty, methPre, methP, getP, isNon, isKey, isKey1, seqP, writeBack, augP, hlt, e6]
                have := fin (some (.tup [.int p.1, .int p.2])) c d
                simp [Kd.ev, hL2, hD, optI, Kd.pv] at this
                exact this
      | op o l r =>
        match st, he, hst, hB, hL, hlt with
        | r1 :: l1 :: st, he, hst, hB, hL, hlt =>
          have hlt : st.length < 16777216 := by simp at hlt; omega
          have hB' : sumO rs + (l1.bits + r1.bits + 1 + sumX st) ≤ 900000 := by
            have h1 : sumO (.op o l r :: rs) = 1 + sumO rs := by simp [sumO, Ex.own]
            have h2 : sumX (r1 :: l1 :: st) = r1.bits + (l1.bits + sumX st) := by simp [sumX]
            omega
          have fin : ∀ b c d : Option PV, IWorth W D (.dct false ks vs) (.dct false es ws) ex.pv ex (rs.map Ex.pv) [some (.dct false ks vs), some (.dct false es ws), some ex.pv, some (.lst ((st.map fun e => optI (e.ev W D)).reverse ++ [optI (o.ap (l1.ev W D) (r1.ev W D))])), some (Ex.op o l r).pv, b, c, d] := fun b c d =>
            ⟨rs, .op o l1 r1 :: st, _, b, c, d, by simp [Ex.ev]; rfl, rfl, he, ho', by
              intro e h
              rcases List.mem_cons.mp h with rfl | h
              · exact ⟨hst l1 (by simp), hst r1 (by simp)⟩
              · exact hst e (by simp [h]), by
              have : sumX (.op o l1 r1 :: st) = l1.bits + r1.bits + 1 + sumX st := by simp [sumX, Ex.bits]
              omega, by simp at hL ⊢; omega⟩
          have b1 := Ex.bd w de (hst l1 (by simp))
          have b2 := Ex.bd w de (hst r1 (by simp))
          have f1 : (Str.ofString o.s == Str.ofString "number") = false := by cases o <;> decide +kernel
          have f2 : (Str.ofString o.s == Str.ofString "name") = false := by cases o <;> decide +kernel
          have f3 : (Str.ofString "begin" == Str.ofString o.s) = false := by cases o <;> decide +kernel
          have f4 : (Str.ofString "after" == Str.ofString o.s) = false := by cases o <;> decide +kernel
          simp [getV, setV, setVs, dictP, itemP_dctE, cutP_take, cutP_drop, cutP_mid, primP, cmpP, truth, litP, binP, eqP, readPath, writePath, getPath, putPath, setP_dct, Pr.ks, Kc.v, OI.isLst, OI.isCnt, mutP_append, mutP_extend, mutP_pop, mutP_reverse, iterP, itemsOf, isiP, OI.isTy, slcP, revP, recvOk, Meth.ty, methPre, methP, getP, isNon, isKey, isKey1, seqP, writeBack, augP, Ex.pv, hlt, f1, f2, f3, f4]
          cases h1 : l1.ev W D with
          | none =>
            have := fin b (some (optI (r1.ev W D))) (some .non)
            rw [h1] at this
            have ha : o.ap none (r1.ev W D) = none := by cases o <;> rfl
            rw [ha] at this
            simp [getV, setV, setVs, dictP, itemP_dctE, cutP_take, cutP_drop, cutP_mid, primP, cmpP, truth, litP, binP, eqP, readPath, writePath, getPath, putPath, setP_dct, Pr.ks, Kc.v, OI.isLst, OI.isCnt, mutP_append, mutP_extend, mutP_pop, mutP_reverse, iterP, itemsOf, isiP, OI.isTy, slcP, revP, recvOk, Meth.ty, methPre, methP, getP, isNon, isKey, isKey1, seqP, writeBack, augP, optI, hlt]
            exact this
          | some x =>
            cases h2 : r1.ev W D with
            | none =>
              have := fin b (some .non) (some (.int x))
              rw [h1, h2] at this
              have ha : o.ap (some x) none = none := by cases o <;> rfl
              rw [ha] at this
              simp [getV, setV, setVs, dictP, itemP_dctE, cutP_take, cutP_drop, cutP_mid, primP, cmpP, truth, litP, binP, eqP, readPath, writePath, getPath, putPath, setP_dct, Pr.ks, Kc.v, OI.isLst, OI.isCnt, mutP_append, mutP_extend, mutP_pop, mutP_reverse, iterP, itemsOf, isiP, OI.isTy, slcP, revP, recvOk, Meth.ty, methPre, methP, getP, isNon, isKey, isKey1, seqP, writeBack, augP, optI, hlt]
              exact this
            | some y =>
              have := fin b (some (.int y)) (some (.int x))
              rw [h1, h2] at this
              have hm : mulOk x y := bd_mul (b1 x h1) (b2 y h2) (by omega)
              have g1 : (Str.ofString "+" == Str.ofString "-") = false := by decide +kernel
              have g2 : (Str.ofString "+" == Str.ofString "*") = false := by decide +kernel
              have g3 : (Str.ofString "-" == Str.ofString "*") = false := by decide +kernel
              cases o
              · simp [getV, setV, setVs, dictP, itemP_dctE, cutP_take, cutP_drop, cutP_mid, primP, cmpP, truth, litP, binP, eqP, readPath, writePath, getPath, putPath, setP_dct, Pr.ks, Kc.v, OI.isLst, OI.isCnt, mutP_append, mutP_extend, mutP_pop, mutP_reverse, iterP, itemsOf, isiP, OI.isTy, slcP, revP, recvOk, Meth.ty, methPre, methP, getP, isNon, isKey, isKey1, seqP, writeBack, augP, optI, hlt, hm, dictP, lookP, g1, g2, g3, Op3.s]
                exact this
              · simp [getV, setV, setVs, dictP, itemP_dctE, cutP_take, cutP_drop, cutP_mid, primP, cmpP, truth, litP, binP, eqP, readPath, writePath, getPath, putPath, setP_dct, Pr.ks, Kc.v, OI.isLst, OI.isCnt, mutP_append, mutP_extend, mutP_pop, mutP_reverse, iterP, itemsOf, isiP, OI.isTy, slcP, revP, recvOk, Meth.ty, methPre, methP, getP, isNon, isKey, isKey1, seqP, writeBack, augP, optI, hlt, hm, dictP, lookP, g1, g2, g3, Op3.s]
                exact this
              · simp [getV, setV, setVs, dictP, itemP_dctE, cutP_take, cutP_drop, cutP_mid, primP, cmpP, truth, litP, binP, eqP, readPath, writePath, getPath, putPath, setP_dct, Pr.ks, Kc.v, OI.isLst, OI.isCnt, mutP_append, mutP_extend, mutP_pop, mutP_reverse, iterP, itemsOf, isiP, OI.isTy, slcP, revP, recvOk, Meth.ty, methPre, methP, getP, isNon, isKey, isKey1, seqP, writeBack, augP, optI, hlt, hm, dictP, lookP, g1, g2, g3, Op3.s]
                exact this
        | [_], he, _, _, _, _ => simp [execT] at he
        | [], he, _, _, _, _ => simp [execT] at he
  · rintro env ⟨rs, st, a, b, c, d, rfl, hrs, he, ho, hst, hB, hL⟩
    cases rs with
    | cons _ _ => simp at hrs
    | nil =>
      simp [execT] at he
      subst he
      have hc : cleanB 0 (optI (ex.ev W D)) = true := clean_optI _
      simp [getV, setV, setVs, dictP, itemP_dctE, cutP_take, cutP_drop, cutP_mid, primP, cmpP, truth, litP, binP, eqP, readPath, writePath, getPath, putPath, setP_dct, Pr.ks, Kc.v, OI.isLst, OI.isCnt, mutP_append, mutP_extend, mutP_pop, mutP_reverse, iterP, itemsOf, isiP, OI.isTy, slcP, revP, recvOk, Meth.ty, methPre, methP, getP, isNon, isKey, isKey1, seqP, writeBack, augP, hc, kOut_ret (d := f__law_worth) rfl]
      exact hQ
end K07
set_option maxRecDepth 100000
set_option maxHeartbeats 0
namespace K07
open PySem OI
/-- a pot, whatever is in it -/
def Pot (p : PV) : Prop := ∃ (g : List Int) (c m : Int), p = pot g c m ∧ (∀ x ∈ g, 0 ≤ x) ∧ g.length ≤ 1000 ∧ 0 ≤ c ∧ 0 ≤ m
theorem sp_ladle' {k : Nat} {p : PV} {many : Int} {Q : PV × Option PV → Prop} (hp : Pot p) (h0 : 0 < many) (h1 : many < 2 ^ 62) (hQ : ∀ (r : Int) (p' : PV), 0 ≤ r → r < many → Pot p' → Q (.int r, some p')) :
    wp (callN TT (k + 1) 7 [p, .int many]) Q := by
  obtain ⟨g, c, m, rfl, hg, hl, hc, hm⟩ := hp
  exact sp_ladle hg hl hc hm h0 h1 fun r g' c' m' a1 a2 a3 a4 a5 a6 => hQ r _ a1 a2 ⟨g', c', m', rfl, a3, a4, a5, a6⟩
theorem Pot.clean {p : PV} (h : Pot p) : cleanB 2 p = true := by
  obtain ⟨g, c, m, rfl, _⟩ := h
  simp [pot, cleanB, OI.clean]
/-! ### texts of signs -/
def chr (c : Nat) : Str := ⟨#[c]⟩
def ofL (l : List Nat) : Str := ⟨l.toArray⟩
theorem str_ext {a b : Str} (h : a.cps = b.cps) : a = b := by cases a; cases b; congr
theorem ofL_toList (s : Str) : ofL s.cps.toList = s := rfl
theorem join_chars : ∀ cs : List Nat, joinP (Str.ofString "") (cs.map chr) = ofL cs
  | [] => rfl
  | [c] => rfl
  | c :: d :: cs => by
    have h := join_chars (d :: cs)
    show chr c ++ Str.ofString "" ++ joinP (Str.ofString "") ((d :: cs).map chr) = ofL (c :: d :: cs)
    rw [h]
    refine str_ext ?_
    show (#[c] ++ (Str.ofString "").cps) ++ (d :: cs).toArray = (c :: d :: cs).toArray
    have : (Str.ofString "").cps = #[] := by decide +kernel
    rw [this]
    simp
theorem sum_chr (cs : List Nat) : ((cs.map chr).map fun x => x.length).sum = cs.length := by
  induction cs with
  | nil => rfl
  | cons c cs ih =>
    rw [List.map_cons, List.map_cons, List.sum_cons, ih]
    show 1 + cs.length = _
    simp; omega
/-! ### names -/
/-- it ends in a letter -/
def NG (x : Str) : Prop := ∃ c, x.cps.toList.getLast? = some c ∧ 97 ≤ c ∧ c ≤ 122
def nn (j : Nat) : Str := Str.ofString "n" ++ Str.ofString (toString (j : Int))
theorem nn_last : ∀ j, j < 8 → (nn j).cps.toList.getLast? = some (48 + j) := by
  have : ∀ j : Fin 8, (nn j.val).cps.toList.getLast? = some (48 + j.val) := by decide +kernel
  exact fun j h => this ⟨j, h⟩
theorem nn_len : ∀ j, j < 8 → (nn j).length = 2 := by
  have : ∀ j : Fin 8, (nn j).length = 2 := by decide +kernel
  exact fun j h => this ⟨j, h⟩
theorem nn_ok : ∀ j, j < 8 → (nn j).cps.all (· < 0x110000) = true := by
  have : ∀ j : Fin 8, (nn j).cps.all (· < 0x110000) = true := by decide +kernel
  exact fun j h => this ⟨j, h⟩
structure TOk (told : List Str) : Prop where
  nd : told.Nodup
  len : told.length ≤ 8
  as : ∀ x ∈ told, (NG x ∨ ∃ j, j < told.length ∧ x = nn j) ∧ x.length ≤ 8 ∧ x.cps.all (· < 0x110000) = true
theorem TOk.nn_new {told : List Str} (h : TOk told) (hl : told.length < 8) : nn told.length ∉ told := by
  intro hm
  rcases (h.as _ hm).1 with ⟨c, h1, h2, h3⟩ | ⟨j, h1, h2⟩
  · rw [nn_last _ hl] at h1
    injection h1 with h1
    omega
  · have := nn_last _ hl
    rw [h2, nn_last _ (by omega)] at this
    injection this with this
    omega
theorem TOk.put {told : List Str} (h : TOk told) (hl : told.length < 8) {x : Str} (hx : x ∉ told) (h1 : NG x ∨ x = nn told.length) (h2 : x.length ≤ 8) (h3 : x.cps.all (· < 0x110000) = true) : TOk (told ++ [x]) := by
  refine ⟨?_, by simp; omega, ?_⟩
  · rw [List.nodup_append]
    refine ⟨h.nd, by simp, ?_⟩
    intro a ha b hb e
    simp at hb
    subst hb e
    exact hx ha
  · intro y hy
    rcases List.mem_append.mp hy with hy | hy
    · obtain ⟨a, b⟩ := h.as y hy
      refine ⟨?_, b⟩
      rcases a with a | ⟨j, a1, a2⟩
      · exact .inl a
      · exact .inr ⟨j, by simp; omega, a2⟩
    · simp at hy
      subst hy
      refine ⟨?_, h2, h3⟩
      rcases h1 with h1 | h1
      · exact .inl h1
      · exact .inr ⟨told.length, by simp, h1⟩
/-- the name that is tried -/
def Try (told : List Str) (x : Str) : Prop := (x ∈ told ∨ NG x) ∧ x.length ≤ 8 ∧ x.cps.all (· < 0x110000) = true
theorem ng_ofL {l cs : List Nat} (hc : ∀ c ∈ cs, 97 ≤ c ∧ c ≤ 122) (hn : cs ≠ []) : NG (ofL (l ++ cs)) := by
  obtain ⟨t, c, rfl⟩ : ∃ t c, cs = t ++ [c] := by
    rcases List.eq_nil_or_concat cs with h | ⟨t, c, h⟩
    · exact absurd h hn
    · exact ⟨t, c, by simpa using h⟩
  exact ⟨c, by simp [ofL, ← List.append_assoc], hc c (by simp)⟩
theorem all_ofL {l : List Nat} : (ofL l).cps.all (· < 0x110000) = true ↔ ∀ c ∈ l, c < 0x110000 := by
  simp [ofL]
theorem try_letters {told : List Str} {cs : List Nat} (hc : ∀ c ∈ cs, 97 ≤ c ∧ c ≤ 122) (hn : cs ≠ []) (hl : cs.length ≤ 8) : Try told (ofL cs) :=
  ⟨.inr (ng_ofL (l := []) hc hn), by simpa [ofL, Str.length] using hl, all_ofL.mpr fun c h => by have := hc c h; omega⟩
theorem try_joined {told : List Str} (h : TOk told) {x : Str} (hx : x ∈ told) {cs : List Nat} (hc : ∀ c ∈ cs, 97 ≤ c ∧ c ≤ 122) (hn : cs ≠ []) : Try told (ofL ((x.cps.toList ++ cs).take 8)) := by
  obtain ⟨_, h2, h3⟩ := h.as x hx
  have hlx : x.cps.toList.length ≤ 8 := by simpa [Str.length] using h2
  have h3' : ∀ c ∈ x.cps.toList, c < 0x110000 := by
    intro c hc
    exact all_ofL.mp (by rw [ofL_toList]; exact h3) c hc
  refine ⟨?_, by simp [ofL, Str.length]; omega, all_ofL.mpr fun c hm => ?_⟩
  · rcases Nat.lt_or_ge x.cps.toList.length 8 with h8 | h8
    · right
      rw [List.take_append, List.take_of_length_le hlx]
      refine ng_ofL (fun c h => hc c (List.mem_of_mem_take h)) ?_
      intro h
      have := congrArg List.length h
      have hn' : 0 < cs.length := List.length_pos_iff.mpr hn
      simp only [List.length_take, List.length_nil] at this
      omega
    · left
      have : (x.cps.toList ++ cs).take 8 = x.cps.toList := by
        rw [List.take_append_of_le_length h8, List.take_of_length_le hlx]
      rw [this]
      exact hx
  · rcases List.mem_append.mp (List.mem_of_mem_take hm) with hm | hm
    · exact h3' c hm
    · have := hc c hm; omega
def kept : List String := ["after", "apart", "at", "begin", "by", "cranes", "end", "for", "from", "number", "order", "place", "post", "rail", "repeat", "speed", "ticks", "time", "to"]
theorem sp_kept {k : Nat} {Q : PV × Option PV → Prop} (hQ : Q (.tup ((kept.map Str.ofString).map .str), none)) : wp (callN TT (k + 1) 9 []) Q := by
  rw [wp_fn (d := f__law_kept) rfl rfl]
  simp [f__law_kept_start, b__law_kept]
  simp [getV, setV, setVs, dictP, itemP_dctE, cutP_take, cutP_drop, cutP_mid, primP, cmpP, truth, litP, binP, eqP, readPath, writePath, getPath, putPath, setP_dct, Pr.ks, Kc.v, OI.isLst, OI.isCnt, mutP_append, mutP_extend, mutP_pop, mutP_reverse, iterP, itemsOf, isiP, OI.isTy, slcP, revP, recvOk, Meth.ty, methPre, methP, getP, isNon, isKey, isKey1, seqP, writeBack, augP, kOut_ret (d := f__law_kept) rfl, cleanB, clean]
  exact hQ
theorem kept_shp : ((kept.map Str.ofString).map PV.str).all shp0 = true := by simp [kept]
def INames (n : Nat) (env : OI.Env) : Prop := ∃ (p : PV) (told : List Str) (a b c : Option PV), env = [some p, some (.int 8), some (.lst (told.map .str)), a, b, c] ∧ Pot p ∧ TOk told ∧ n = 8 - told.length
theorem sp_names {k : Nat} {p : PV} {Q : PV × Option PV → Prop} (hp : Pot p) (hQ : ∀ (told : List Str) (p' : PV), TOk told → told.length = 8 → Pot p' → Q (.lst (told.map .str), some p')) :
    wp (callN TT (k + 2) 10 [p, .int 8]) Q := by
  rw [wp_fn (d := f__law_names) rfl rfl]
  simp [f__law_names_start, b__law_names]
  simp [getV, setV, setVs, dictP, itemP_dctE, cutP_take, cutP_drop, cutP_mid, primP, cmpP, truth, litP, binP, eqP, readPath, writePath, getPath, putPath, setP_dct, Pr.ks, Kc.v, OI.isLst, OI.isCnt, mutP_append, mutP_extend, mutP_pop, mutP_reverse, iterP, itemsOf, isiP, OI.isTy, slcP, revP, recvOk, Meth.ty, methPre, methP, getP, isNon, isKey, isKey1, seqP, writeBack, augP]
  refine wp_whl INames (n := 8) ⟨p, [], none, none, none, rfl, hp, ⟨by simp, by simp, by simp⟩, rfl⟩ ?_
  rintro n env ⟨p, told, a, b, c0, rfl, hp, ht, rfl⟩
  have hlen := ht.len
  simp [b__law_names_3, b__law_names_1]
  simp [getV, setV, setVs, dictP, itemP_dctE, cutP_take, cutP_drop, cutP_mid, primP, cmpP, truth, litP, binP, eqP, readPath, writePath, getPath, putPath, setP_dct, Pr.ks, Kc.v, OI.isLst, OI.isCnt, mutP_append, mutP_extend, mutP_pop, mutP_reverse, iterP, itemsOf, isiP, OI.isTy, slcP, revP, recvOk, Meth.ty, methPre, methP, getP, isNon, isKey, isKey1, seqP, writeBack, augP]
  constructor
  · intro h8
    have h8 : told.length = 8 := by omega
    simp [getV, setV, setVs, dictP, itemP_dctE, cutP_take, cutP_drop, cutP_mid, primP, cmpP, truth, litP, binP, eqP, readPath, writePath, getPath, putPath, setP_dct, Pr.ks, Kc.v, OI.isLst, OI.isCnt, mutP_append, mutP_extend, mutP_pop, mutP_reverse, iterP, itemsOf, isiP, OI.isTy, slcP, revP, recvOk, Meth.ty, methPre, methP, getP, isNon, isKey, isKey1, seqP, writeBack, augP, kOut_retIo (d := f__law_names) rfl, hp.clean]
    refine ⟨?_, hQ told p ht h8 hp⟩
    simp [cleanB, clean]
  · intro hlt
    refine wpE_call ?_
    simp [getV, setV, setVs, dictP, itemP_dctE, cutP_take, cutP_drop, cutP_mid, primP, cmpP, truth, litP, binP, eqP, readPath, writePath, getPath, putPath, setP_dct, Pr.ks, Kc.v, OI.isLst, OI.isCnt, mutP_append, mutP_extend, mutP_pop, mutP_reverse, iterP, itemsOf, isiP, OI.isTy, slcP, revP, recvOk, Meth.ty, methPre, methP, getP, isNon, isKey, isKey1, seqP, writeBack, augP]
    refine kCall_ctx (d := f__law_ladle) rfl rfl (sp_ladle' hp (by omega) (by omega) ?_)
    intro r p1 h1 h2 hp1
    simp [getV, setV, setVs, dictP, itemP_dctE, cutP_take, cutP_drop, cutP_mid, primP, cmpP, truth, litP, binP, eqP, readPath, writePath, getPath, putPath, setP_dct, Pr.ks, Kc.v, OI.isLst, OI.isCnt, mutP_append, mutP_extend, mutP_pop, mutP_reverse, iterP, itemsOf, isiP, OI.isTy, slcP, revP, recvOk, Meth.ty, methPre, methP, getP, isNon, isKey, isKey1, seqP, writeBack, augP]
    refine wp_item_tup h1 (by simpa using h2) fun j x hj _ => ?_
    have hx : ∃ m : Nat, x = .int m ∧ 1 ≤ m ∧ m ≤ 8 := by
      have := List.mem_of_getElem? hj
      simp at this
      rcases this with rfl | rfl | rfl | rfl
      · exact ⟨1, rfl, by omega, by omega⟩
      · exact ⟨2, rfl, by omega, by omega⟩
      · exact ⟨3, rfl, by omega, by omega⟩
      · exact ⟨8, rfl, by omega, by omega⟩
    obtain ⟨m, hx, hm1, hm8⟩ := hx
    clear hj
    subst hx
    simp [setV]
    refine wpE_meth ?_
    have hsm : smallP (m : Int) := by constructor <;> omega
    simp [getV, setV, setVs, dictP, itemP_dctE, cutP_take, cutP_drop, cutP_mid, primP, cmpP, truth, litP, binP, eqP, readPath, writePath, getPath, putPath, setP_dct, Pr.ks, Kc.v, OI.isLst, OI.isCnt, mutP_append, mutP_extend, mutP_pop, mutP_reverse, iterP, itemsOf, isiP, OI.isTy, slcP, revP, recvOk, Meth.ty, methPre, methP, getP, isNon, isKey, isKey1, seqP, writeBack, augP, hsm]
    refine wp_lcr (fun i env acc => ∃ (p : PV) (cs : List Nat) (c : Option PV), env = [some p, some (.int 8), some (.lst (told.map .str)), some (.int m), b, c] ∧ Pot p ∧ acc = (cs.map chr).map .str ∧ cs.length = i ∧ ∀ c ∈ cs, 97 ≤ c ∧ c ≤ 122) ⟨p1, [], c0, rfl, hp1, rfl, rfl, by simp⟩ ?_ ?_
    · rintro i env acc hi ⟨p, cs, c, rfl, hp, rfl, hcs, hc⟩
      simp [wipeV, Tg.slots]
      simp [getV, setV, setVs, dictP, itemP_dctE, cutP_take, cutP_drop, cutP_mid, primP, cmpP, truth, litP, binP, eqP, readPath, writePath, getPath, putPath, setP_dct, Pr.ks, Kc.v, OI.isLst, OI.isCnt, mutP_append, mutP_extend, mutP_pop, mutP_reverse, iterP, itemsOf, isiP, OI.isTy, slcP, revP, recvOk, Meth.ty, methPre, methP, getP, isNon, isKey, isKey1, seqP, writeBack, augP]
      refine wpE_call ?_
      simp [getV, setV, setVs, dictP, itemP_dctE, cutP_take, cutP_drop, cutP_mid, primP, cmpP, truth, litP, binP, eqP, readPath, writePath, getPath, putPath, setP_dct, Pr.ks, Kc.v, OI.isLst, OI.isCnt, mutP_append, mutP_extend, mutP_pop, mutP_reverse, iterP, itemsOf, isiP, OI.isTy, slcP, revP, recvOk, Meth.ty, methPre, methP, getP, isNon, isKey, isKey1, seqP, writeBack, augP]
      refine kCall_ctx (d := f__law_ladle) rfl rfl (sp_ladle' hp (by omega) (by omega) ?_)
      intro r p1 h1 h2 hp1
      simp [getV, setV, setVs, dictP, itemP_dctE, cutP_take, cutP_drop, cutP_mid, primP, cmpP, truth, litP, binP, eqP, readPath, writePath, getPath, putPath, setP_dct, Pr.ks, Kc.v, OI.isLst, OI.isCnt, mutP_append, mutP_extend, mutP_pop, mutP_reverse, iterP, itemsOf, isiP, OI.isTy, slcP, revP, recvOk, Meth.ty, methPre, methP, getP, isNon, isKey, isKey1, seqP, writeBack, augP]
      have hab : (Str.ofString "abcdefghijklmnopqrstuvwxyz").cps.toList.length = 26 := by decide +kernel
      have hal : ∀ c ∈ (Str.ofString "abcdefghijklmnopqrstuvwxyz").cps.toList, 97 ≤ c ∧ c ≤ 122 := by decide +kernel
      refine wp_item_str h1 (by rw [hab]; exact h2) (by decide +kernel) fun d hd => ?_
      simp [getV, setV, setVs, dictP, itemP_dctE, cutP_take, cutP_drop, cutP_mid, primP, cmpP, truth, litP, binP, eqP, readPath, writePath, getPath, putPath, setP_dct, Pr.ks, Kc.v, OI.isLst, OI.isCnt, mutP_append, mutP_extend, mutP_pop, mutP_reverse, iterP, itemsOf, isiP, OI.isTy, slcP, revP, recvOk, Meth.ty, methPre, methP, getP, isNon, isKey, isKey1, seqP, writeBack, augP]
      refine ⟨by omega, hp1, cs ++ [d], by simp [chr], by simp [hcs], ?_⟩
      intro c h
      rcases List.mem_append.mp h with h | h
      · exact hc c h
      · simp at h
        subst h
        exact hal _ hd
    · rintro env acc ⟨p, cs, c, rfl, hp, rfl, hcs, hc⟩
      have hcs : cs.length = m := by omega
      have hcn : cs ≠ [] := by rintro rfl; simp at hcs; omega
      have e0 : (Str.ofString "").length = 0 := by decide +kernel
      have hsum := sum_chr cs
      have rest : ∀ (p : PV) (x : Str), Pot p → Try told x → wp (evalSs (ctxN TT (k + 1)) b__law_names_2 [some p, some (.int 8), some (.lst (told.map .str)), some (.int m), some (.str x), c0]) (turn (fun e => ∃ m, m < 8 - told.length ∧ INames m e) (kSeq (ctxN TT (k + 1)) [S.ret (E.mv 2)] (kOut f__law_names Q))) := by
        intro p x hp htry
        obtain ⟨ht1, ht2, ht3⟩ := htry
        have hsx : shp0 (.str x) = true := ht3
        have hsall' : ∀ y ∈ told, shp0 (PV.str y) = true := fun y hy => (ht.as y hy).2.2
        have hlt8 : told.length < 8 := by omega
        have hlt' : told.length < 16777216 := by omega
        have hlog : (told.length : Int).natAbs.log2 < 1920 := log_small (by omega)
        have hnew := ht.nn_new hlt8
        have h1 := nn_len told.length hlt8
        have h2 := nn_ok told.length hlt8
        have e : Str.ofString "n" ++ Str.ofString (Int.repr (told.length : Int)) = nn told.length := rfl
        have h3 : (Str.ofString "n").length + (Str.ofString (Int.repr (told.length : Int))).length = 2 := by
          rw [← h1, ← e]
          exact (PySem.Str.length_append _ _).symm
        have hlog2 : told.length.log2 < 1920 := hlog
        have h4 : shp0 (.str (nn told.length)) = true := h2
        have fin : ∀ y : Str, y ∉ told → (NG y ∨ y = nn told.length) → y.length ≤ 8 → y.cps.all (· < 0x110000) = true → ∃ m', m' < 8 - told.length ∧ INames m' [some p, some (.int 8), some (.lst (told.map .str ++ [.str y])), some (.int m), some (.str x), c0] := fun y y1 y2 y3 y4 =>
          ⟨8 - (told ++ [y]).length, by simp; omega, p, told ++ [y], some (.int m), some (.str x), c0, by simp, hp, ht.put hlt8 y1 y2 y3 y4, rfl⟩
        have finN := fin _ hnew (.inr rfl) (by rw [h1]; decide) h2
        simp [b__law_names_2]
        simp [getV, setV, setVs, dictP, itemP_dctE, cutP_take, cutP_drop, cutP_mid, primP, cmpP, truth, litP, binP, eqP, readPath, writePath, getPath, putPath, setP_dct, Pr.ks, Kc.v, OI.isLst, OI.isCnt, mutP_append, mutP_extend, mutP_pop, mutP_reverse, iterP, itemsOf, isiP, OI.isTy, slcP, revP, recvOk, Meth.ty, methPre, methP, getP, isNon, isKey, isKey1, seqP, writeBack, augP, hsx]
        refine ⟨hsall', ?_⟩
        by_cases hxt : x ∈ told
        · simp [getV, setV, setVs, dictP, itemP_dctE, cutP_take, cutP_drop, cutP_mid, primP, cmpP, truth, litP, binP, eqP, readPath, writePath, getPath, putPath, setP_dct, Pr.ks, Kc.v, OI.isLst, OI.isCnt, mutP_append, mutP_extend, mutP_pop, mutP_reverse, iterP, itemsOf, isiP, OI.isTy, slcP, revP, recvOk, Meth.ty, methPre, methP, getP, isNon, isKey, isKey1, seqP, writeBack, augP, hxt, hlog2, h3, e, h4, hnew, hlt']
          exact ⟨hsall', finN⟩
        · simp [getV, setV, setVs, dictP, itemP_dctE, cutP_take, cutP_drop, cutP_mid, primP, cmpP, truth, litP, binP, eqP, readPath, writePath, getPath, putPath, setP_dct, Pr.ks, Kc.v, OI.isLst, OI.isCnt, mutP_append, mutP_extend, mutP_pop, mutP_reverse, iterP, itemsOf, isiP, OI.isTy, slcP, revP, recvOk, Meth.ty, methPre, methP, getP, isNon, isKey, isKey1, seqP, writeBack, augP, hxt]
          refine wpE_call ?_
          simp [getV, setV, setVs, dictP, itemP_dctE, cutP_take, cutP_drop, cutP_mid, primP, cmpP, truth, litP, binP, eqP, readPath, writePath, getPath, putPath, setP_dct, Pr.ks, Kc.v, OI.isLst, OI.isCnt, mutP_append, mutP_extend, mutP_pop, mutP_reverse, iterP, itemsOf, isiP, OI.isTy, slcP, revP, recvOk, Meth.ty, methPre, methP, getP, isNon, isKey, isKey1, seqP, writeBack, augP]
          refine kCall_ctx (d := f__law_kept) rfl rfl (sp_kept ?_)
          have hks := kept_shp
          have hks2 : ∀ s ∈ kept, shp0 (PV.str (Str.ofString s)) = true := fun s _ => okStr s
          simp [getV, setV, setVs, dictP, itemP_dctE, cutP_take, cutP_drop, cutP_mid, primP, cmpP, truth, litP, binP, eqP, readPath, writePath, getPath, putPath, setP_dct, Pr.ks, Kc.v, OI.isLst, OI.isCnt, mutP_append, mutP_extend, mutP_pop, mutP_reverse, iterP, itemsOf, isiP, OI.isTy, slcP, revP, recvOk, Meth.ty, methPre, methP, getP, isNon, isKey, isKey1, seqP, writeBack, augP, hsx, hks]
          by_cases hk : (kept.any ((fun y => eqP y (PV.str x)) ∘ PV.str ∘ Str.ofString)) = true
          · simp [getV, setV, setVs, dictP, itemP_dctE, cutP_take, cutP_drop, cutP_mid, primP, cmpP, truth, litP, binP, eqP, readPath, writePath, getPath, putPath, setP_dct, Pr.ks, Kc.v, OI.isLst, OI.isCnt, mutP_append, mutP_extend, mutP_pop, mutP_reverse, iterP, itemsOf, isiP, OI.isTy, slcP, revP, recvOk, Meth.ty, methPre, methP, getP, isNon, isKey, isKey1, seqP, writeBack, augP, hk, hlog2, h3, e, h4, hnew, hlt']
            exact ⟨hsall', finN⟩
          · simp [getV, setV, setVs, dictP, itemP_dctE, cutP_take, cutP_drop, cutP_mid, primP, cmpP, truth, litP, binP, eqP, readPath, writePath, getPath, putPath, setP_dct, Pr.ks, Kc.v, OI.isLst, OI.isCnt, mutP_append, mutP_extend, mutP_pop, mutP_reverse, iterP, itemsOf, isiP, OI.isTy, slcP, revP, recvOk, Meth.ty, methPre, methP, getP, isNon, isKey, isKey1, seqP, writeBack, augP, hk]
            exact ⟨hlt', fin x hxt (ht1.elim (fun h => absurd h hxt) .inl) ht2 ht3⟩
      simp [getV, setV, setVs, dictP, itemP_dctE, cutP_take, cutP_drop, cutP_mid, primP, cmpP, truth, litP, binP, eqP, readPath, writePath, getPath, putPath, setP_dct, Pr.ks, Kc.v, OI.isLst, OI.isCnt, mutP_append, mutP_extend, mutP_pop, mutP_reverse, iterP, itemsOf, isiP, OI.isTy, slcP, revP, recvOk, Meth.ty, methPre, methP, getP, isNon, isKey, isKey1, seqP, writeBack, augP, Tg.slots, restore, e0]
      rw [join_chars]
      refine ⟨by simp at hsum; omega, ?_⟩
      by_cases htn : told = []
      · have h0 : ¬ 0 < told.length := by simp [htn]
        simp [getV, setV, setVs, dictP, itemP_dctE, cutP_take, cutP_drop, cutP_mid, primP, cmpP, truth, litP, binP, eqP, readPath, writePath, getPath, putPath, setP_dct, Pr.ks, Kc.v, OI.isLst, OI.isCnt, mutP_append, mutP_extend, mutP_pop, mutP_reverse, iterP, itemsOf, isiP, OI.isTy, slcP, revP, recvOk, Meth.ty, methPre, methP, getP, isNon, isKey, isKey1, seqP, writeBack, augP, h0]
        exact rest p _ hp (try_letters hc hcn (by omega))
      · have h0 : 0 < told.length := List.length_pos_iff.mpr htn
        simp [getV, setV, setVs, dictP, itemP_dctE, cutP_take, cutP_drop, cutP_mid, primP, cmpP, truth, litP, binP, eqP, readPath, writePath, getPath, putPath, setP_dct, Pr.ks, Kc.v, OI.isLst, OI.isCnt, mutP_append, mutP_extend, mutP_pop, mutP_reverse, iterP, itemsOf, isiP, OI.isTy, slcP, revP, recvOk, Meth.ty, methPre, methP, getP, isNon, isKey, isKey1, seqP, writeBack, augP, h0]
        refine wpE_call ?_
        simp [getV, setV, setVs, dictP, itemP_dctE, cutP_take, cutP_drop, cutP_mid, primP, cmpP, truth, litP, binP, eqP, readPath, writePath, getPath, putPath, setP_dct, Pr.ks, Kc.v, OI.isLst, OI.isCnt, mutP_append, mutP_extend, mutP_pop, mutP_reverse, iterP, itemsOf, isiP, OI.isTy, slcP, revP, recvOk, Meth.ty, methPre, methP, getP, isNon, isKey, isKey1, seqP, writeBack, augP]
        refine kCall_ctx (d := f__law_ladle) rfl rfl (sp_ladle' hp (by omega) (by omega) ?_)
        intro r p1 h1 h2 hp1
        simp [getV, setV, setVs, dictP, itemP_dctE, cutP_take, cutP_drop, cutP_mid, primP, cmpP, truth, litP, binP, eqP, readPath, writePath, getPath, putPath, setP_dct, Pr.ks, Kc.v, OI.isLst, OI.isCnt, mutP_append, mutP_extend, mutP_pop, mutP_reverse, iterP, itemsOf, isiP, OI.isTy, slcP, revP, recvOk, Meth.ty, methPre, methP, getP, isNon, isKey, isKey1, seqP, writeBack, augP]
        by_cases hr : r = 0
        · simp [getV, setV, setVs, dictP, itemP_dctE, cutP_take, cutP_drop, cutP_mid, primP, cmpP, truth, litP, binP, eqP, readPath, writePath, getPath, putPath, setP_dct, Pr.ks, Kc.v, OI.isLst, OI.isCnt, mutP_append, mutP_extend, mutP_pop, mutP_reverse, iterP, itemsOf, isiP, OI.isTy, slcP, revP, recvOk, Meth.ty, methPre, methP, getP, isNon, isKey, isKey1, seqP, writeBack, augP, hr]
          refine wpE_call ?_
          simp [getV, setV, setVs, dictP, itemP_dctE, cutP_take, cutP_drop, cutP_mid, primP, cmpP, truth, litP, binP, eqP, readPath, writePath, getPath, putPath, setP_dct, Pr.ks, Kc.v, OI.isLst, OI.isCnt, mutP_append, mutP_extend, mutP_pop, mutP_reverse, iterP, itemsOf, isiP, OI.isTy, slcP, revP, recvOk, Meth.ty, methPre, methP, getP, isNon, isKey, isKey1, seqP, writeBack, augP]
          refine kCall_ctx (d := f__law_ladle) rfl rfl (sp_ladle' hp1 (by omega) (by omega) ?_)
          intro r p2 h1 h2 hp2
          simp [getV, setV, setVs, dictP, itemP_dctE, cutP_take, cutP_drop, cutP_mid, primP, cmpP, truth, litP, binP, eqP, readPath, writePath, getPath, putPath, setP_dct, Pr.ks, Kc.v, OI.isLst, OI.isCnt, mutP_append, mutP_extend, mutP_pop, mutP_reverse, iterP, itemsOf, isiP, OI.isTy, slcP, revP, recvOk, Meth.ty, methPre, methP, getP, isNon, isKey, isKey1, seqP, writeBack, augP]
          refine wp_item_lst h1 (by simpa using h2) fun j x hj _ => ?_
          have hx : x ∈ told.map PV.str := List.mem_of_getElem? hj
          obtain ⟨x, hx', rfl⟩ := List.mem_map.mp hx
          clear hx
          simp [getV, setV, setVs, dictP, itemP_dctE, cutP_take, cutP_drop, cutP_mid, primP, cmpP, truth, litP, binP, eqP, readPath, writePath, getPath, putPath, setP_dct, Pr.ks, Kc.v, OI.isLst, OI.isCnt, mutP_append, mutP_extend, mutP_pop, mutP_reverse, iterP, itemsOf, isiP, OI.isTy, slcP, revP, recvOk, Meth.ty, methPre, methP, getP, isNon, isKey, isKey1, seqP, writeBack, augP]
          obtain ⟨_, hx8, _⟩ := ht.as x hx'
          have e1 : (x ++ ofL cs).cps.toList = x.cps.toList ++ cs := by
            show (x.cps ++ cs.toArray).toList = _
            simp
          have e2 : (ofL cs).length = m := by simpa [ofL, Str.length] using hcs
          have e3 : (x ++ ofL cs).length = x.length + m := by
            show (x.cps ++ cs.toArray).size = _
            simp [hcs, Str.length]
          refine ⟨by omega, by omega, ?_⟩
          rw [e1]
          exact rest p2 _ hp2 (try_joined ht hx' hc hcn)
        · have hr' : (r == 0) = false := by simp [hr]
          simp [getV, setV, setVs, dictP, itemP_dctE, cutP_take, cutP_drop, cutP_mid, primP, cmpP, truth, litP, binP, eqP, readPath, writePath, getPath, putPath, setP_dct, Pr.ks, Kc.v, OI.isLst, OI.isCnt, mutP_append, mutP_extend, mutP_pop, mutP_reverse, iterP, itemsOf, isiP, OI.isTy, slcP, revP, recvOk, Meth.ty, methPre, methP, getP, isNon, isKey, isKey1, seqP, writeBack, augP, hr']
          exact rest p1 _ hp1 (try_letters hc hcn (by omega))
end K07
set_option maxRecDepth 100000
set_option maxHeartbeats 0
namespace K07
open PySem OI
/-- a label: a name, names -/
def Lab (v : PV) : Prop := ∃ n0 ns, v = .tup ((n0 :: ns).map .str) ∧ (n0.length + 13 * ns.length ≤ 1000 ∧ ns.length ≤ 900)
def szs (l : List Ex) : Nat := (l.map Ex.size).sum
def IAny1 (p0 nm lb dp : PV) (i : Nat) (env : OI.Env) : Prop := ∃ (p : PV) (rows : List Ex) (a b c : Option PV), env = [some p, some nm, some lb, some dp, some (.lst (rows.map Ex.pv)), a, b, c] ∧ Pot p ∧ rows.length = i ∧ (∀ e ∈ rows, e.Ok) ∧ szs rows = i ∧ sumX rows = 60 * i
def IAny2 (nm lb dp : PV) (N n : Nat) (env : OI.Env) : Prop := ∃ (p : PV) (rows : List Ex) (a b c : Option PV), env = [some p, some nm, some lb, some dp, some (.lst (rows.map Ex.pv)), a, b, c] ∧ Pot p ∧ rows.length = n ∧ 1 ≤ n ∧ (∀ e ∈ rows, e.Ok) ∧ szs rows + 2 * n = 3 * N ∧ sumX rows + n = 61 * N
theorem sp_any {k : Nat} {p : PV} {names : List Str} {labels : List PV} {deep : Int} {Q : PV × Option PV → Prop} (hp : Pot p) (hn : 1 ≤ names.length) (hn2 : names.length ≤ 1000) (hl : ∀ v ∈ labels, Lab v) (hl1 : 1 ≤ labels.length) (hl2 : labels.length ≤ 1000)
    (hd : 0 ≤ deep) (hd2 : deep ≤ 10) (hQ : ∀ (e : Ex) (p' : PV), e.Ok → e.bits ≤ 900000 → e.size ≤ 50 → Pot p' → Q (e.pv, some p')) : wp (callN TT (k + 2) 14 [p, .lst (names.map .str), .lst labels, .int deep]) Q := by
  rw [wp_fn (d := f__law_any) rfl rfl]
  simp [f__law_any_start, b__law_any]
  have hsm : smallP (1 + deep) := by constructor <;> omega
  have hsm0 : smallP 0 := by decide
  simp [getV, setV, setVs, dictP, itemP_dctE, cutP_take, cutP_drop, cutP_mid, primP, cmpP, truth, litP, binP, eqP, readPath, writePath, getPath, putPath, setP_dct, Pr.ks, Kc.v, OI.isLst, OI.isCnt, mutP_append, mutP_extend, mutP_pop, mutP_reverse, iterP, itemsOf, isiP, OI.isTy, slcP, revP, recvOk, Meth.ty, methPre, methP, getP, isNon, isKey, isKey1, seqP, writeBack, augP, hsm]
  refine wp_range (IAny1 p (.lst (names.map .str)) (.lst labels) (.int deep)) ⟨p, [], none, none, none, rfl, hp, rfl, by simp, rfl, rfl⟩ ?_ ?_
  · rintro i env hi ⟨p, rows, a, b, c, rfl, hp, hr, ho, hz, hx⟩
    have hlt : rows.length < 16777216 := by omega
    have fin : ∀ (kd : Kd) (p : PV) (a b c : Option PV), kd.Ok → Pot p → IAny1 p (.lst (names.map .str)) (.lst labels) (.int deep) (i + 1) [some p, some (.lst (names.map .str)), some (.lst labels), some (.int deep), some (.lst (rows.map Ex.pv ++ [kd.pv])), a, b, c] := fun kd p a b c hk hp =>
      ⟨p, rows ++ [.leaf kd], a, b, c, by simp [Ex.pv], hp, by simp [hr], by
        intro e he
        rcases List.mem_append.mp he with he | he
        · exact ho e he
        · simp at he; subst he; exact hk, by simp [szs, Ex.size] at hz ⊢; omega, by simp [sumX, Ex.bits] at hx ⊢; omega⟩
    simp [b__law_any_4]
    simp [getV, setV, setVs, dictP, itemP_dctE, cutP_take, cutP_drop, cutP_mid, primP, cmpP, truth, litP, binP, eqP, readPath, writePath, getPath, putPath, setP_dct, Pr.ks, Kc.v, OI.isLst, OI.isCnt, mutP_append, mutP_extend, mutP_pop, mutP_reverse, iterP, itemsOf, isiP, OI.isTy, slcP, revP, recvOk, Meth.ty, methPre, methP, getP, isNon, isKey, isKey1, seqP, writeBack, augP]
    refine wpE_call ?_
    simp [getV, setV, setVs, dictP, itemP_dctE, cutP_take, cutP_drop, cutP_mid, primP, cmpP, truth, litP, binP, eqP, readPath, writePath, getPath, putPath, setP_dct, Pr.ks, Kc.v, OI.isLst, OI.isCnt, mutP_append, mutP_extend, mutP_pop, mutP_reverse, iterP, itemsOf, isiP, OI.isTy, slcP, revP, recvOk, Meth.ty, methPre, methP, getP, isNon, isKey, isKey1, seqP, writeBack, augP]
    refine kCall_ctx (d := f__law_ladle) rfl rfl (sp_ladle' hp (by omega) (by omega) ?_)
    intro w p1 h1 h2 hp1
    simp [getV, setV, setVs, dictP, itemP_dctE, cutP_take, cutP_drop, cutP_mid, primP, cmpP, truth, litP, binP, eqP, readPath, writePath, getPath, putPath, setP_dct, Pr.ks, Kc.v, OI.isLst, OI.isCnt, mutP_append, mutP_extend, mutP_pop, mutP_reverse, iterP, itemsOf, isiP, OI.isTy, slcP, revP, recvOk, Meth.ty, methPre, methP, getP, isNon, isKey, isKey1, seqP, writeBack, augP]
    by_cases hw : w = 0
    · subst hw
      simp [getV, setV, setVs, dictP, itemP_dctE, cutP_take, cutP_drop, cutP_mid, primP, cmpP, truth, litP, binP, eqP, readPath, writePath, getPath, putPath, setP_dct, Pr.ks, Kc.v, OI.isLst, OI.isCnt, mutP_append, mutP_extend, mutP_pop, mutP_reverse, iterP, itemsOf, isiP, OI.isTy, slcP, revP, recvOk, Meth.ty, methPre, methP, getP, isNon, isKey, isKey1, seqP, writeBack, augP]
      refine wpE_call ?_
      simp [getV, setV, setVs, dictP, itemP_dctE, cutP_take, cutP_drop, cutP_mid, primP, cmpP, truth, litP, binP, eqP, readPath, writePath, getPath, putPath, setP_dct, Pr.ks, Kc.v, OI.isLst, OI.isCnt, mutP_append, mutP_extend, mutP_pop, mutP_reverse, iterP, itemsOf, isiP, OI.isTy, slcP, revP, recvOk, Meth.ty, methPre, methP, getP, isNon, isKey, isKey1, seqP, writeBack, augP]
      refine kCall_ctx (d := f__law_ladle) rfl rfl (sp_ladle' hp1 (by omega) (by omega) ?_)
      intro x p2 x1 x2 hp2
      simp [getV, setV, setVs, dictP, itemP_dctE, cutP_take, cutP_drop, cutP_mid, primP, cmpP, truth, litP, binP, eqP, readPath, writePath, getPath, putPath, setP_dct, Pr.ks, Kc.v, OI.isLst, OI.isCnt, mutP_append, mutP_extend, mutP_pop, mutP_reverse, iterP, itemsOf, isiP, OI.isTy, slcP, revP, recvOk, Meth.ty, methPre, methP, getP, isNon, isKey, isKey1, seqP, writeBack, augP]
      refine wpE_call ?_
      simp [getV, setV, setVs, dictP, itemP_dctE, cutP_take, cutP_drop, cutP_mid, primP, cmpP, truth, litP, binP, eqP, readPath, writePath, getPath, putPath, setP_dct, Pr.ks, Kc.v, OI.isLst, OI.isCnt, mutP_append, mutP_extend, mutP_pop, mutP_reverse, iterP, itemsOf, isiP, OI.isTy, slcP, revP, recvOk, Meth.ty, methPre, methP, getP, isNon, isKey, isKey1, seqP, writeBack, augP]
      refine kCall_ctx (d := f__law_ladle) rfl rfl (sp_ladle' hp2 (by omega) (by omega) ?_)
      intro y p3 y1 y2 hp3
      simp [getV, setV, setVs, dictP, itemP_dctE, cutP_take, cutP_drop, cutP_mid, primP, cmpP, truth, litP, binP, eqP, readPath, writePath, getPath, putPath, setP_dct, Pr.ks, Kc.v, OI.isLst, OI.isCnt, mutP_append, mutP_extend, mutP_pop, mutP_reverse, iterP, itemsOf, isiP, OI.isTy, slcP, revP, recvOk, Meth.ty, methPre, methP, getP, isNon, isKey, isKey1, seqP, writeBack, augP]
      refine wpE_call ?_
      simp [getV, setV, setVs, dictP, itemP_dctE, cutP_take, cutP_drop, cutP_mid, primP, cmpP, truth, litP, binP, eqP, readPath, writePath, getPath, putPath, setP_dct, Pr.ks, Kc.v, OI.isLst, OI.isCnt, mutP_append, mutP_extend, mutP_pop, mutP_reverse, iterP, itemsOf, isiP, OI.isTy, slcP, revP, recvOk, Meth.ty, methPre, methP, getP, isNon, isKey, isKey1, seqP, writeBack, augP]
      refine kCall_ctx (d := f__law_ladle) rfl rfl (sp_ladle' hp3 (by omega) (by omega) ?_)
      intro z p4 z1 z2 hp4
      simp [getV, setV, setVs, dictP, itemP_dctE, cutP_take, cutP_drop, cutP_mid, primP, cmpP, truth, litP, binP, eqP, readPath, writePath, getPath, putPath, setP_dct, Pr.ks, Kc.v, OI.isLst, OI.isCnt, mutP_append, mutP_extend, mutP_pop, mutP_reverse, iterP, itemsOf, isiP, OI.isTy, slcP, revP, recvOk, Meth.ty, methPre, methP, getP, isNon, isKey, isKey1, seqP, writeBack, augP]
      refine wp_item_tup z1 (by simpa using z2) fun j v hj _ => ?_
      have hv : ∃ n : Int, v = .int n ∧ 0 ≤ n ∧ n < 1000000 := by
        have := List.mem_of_getElem? hj
        simp at this
        rcases this with h | h
        · exact ⟨x, h, x1, by omega⟩
        · exact ⟨y, h, y1, by omega⟩
      obtain ⟨n, hv, n1, n2⟩ := hv
      clear hj
      subst hv
      simp [getV, setV, setVs, dictP, itemP_dctE, cutP_take, cutP_drop, cutP_mid, primP, cmpP, truth, litP, binP, eqP, readPath, writePath, getPath, putPath, setP_dct, Pr.ks, Kc.v, OI.isLst, OI.isCnt, mutP_append, mutP_extend, mutP_pop, mutP_reverse, iterP, itemsOf, isiP, OI.isTy, slcP, revP, recvOk, Meth.ty, methPre, methP, getP, isNon, isKey, isKey1, seqP, writeBack, augP, hlt]
      exact fin (.num n) p4 _ _ _ (show n.natAbs < 2 ^ 60 by omega) hp4
    · have hw' : (w == 0) = false := by simp [hw]
      simp [getV, setV, setVs, dictP, itemP_dctE, cutP_take, cutP_drop, cutP_mid, primP, cmpP, truth, litP, binP, eqP, readPath, writePath, getPath, putPath, setP_dct, Pr.ks, Kc.v, OI.isLst, OI.isCnt, mutP_append, mutP_extend, mutP_pop, mutP_reverse, iterP, itemsOf, isiP, OI.isTy, slcP, revP, recvOk, Meth.ty, methPre, methP, getP, isNon, isKey, isKey1, seqP, writeBack, augP, hw']
      by_cases hw3 : w < 3
      · simp [getV, setV, setVs, dictP, itemP_dctE, cutP_take, cutP_drop, cutP_mid, primP, cmpP, truth, litP, binP, eqP, readPath, writePath, getPath, putPath, setP_dct, Pr.ks, Kc.v, OI.isLst, OI.isCnt, mutP_append, mutP_extend, mutP_pop, mutP_reverse, iterP, itemsOf, isiP, OI.isTy, slcP, revP, recvOk, Meth.ty, methPre, methP, getP, isNon, isKey, isKey1, seqP, writeBack, augP, hw3]
        refine wpE_call ?_
        simp [getV, setV, setVs, dictP, itemP_dctE, cutP_take, cutP_drop, cutP_mid, primP, cmpP, truth, litP, binP, eqP, readPath, writePath, getPath, putPath, setP_dct, Pr.ks, Kc.v, OI.isLst, OI.isCnt, mutP_append, mutP_extend, mutP_pop, mutP_reverse, iterP, itemsOf, isiP, OI.isTy, slcP, revP, recvOk, Meth.ty, methPre, methP, getP, isNon, isKey, isKey1, seqP, writeBack, augP]
        refine kCall_ctx (d := f__law_ladle) rfl rfl (sp_ladle' hp1 (by omega) (by omega) ?_)
        intro x p2 x1 x2 hp2
        simp [getV, setV, setVs, dictP, itemP_dctE, cutP_take, cutP_drop, cutP_mid, primP, cmpP, truth, litP, binP, eqP, readPath, writePath, getPath, putPath, setP_dct, Pr.ks, Kc.v, OI.isLst, OI.isCnt, mutP_append, mutP_extend, mutP_pop, mutP_reverse, iterP, itemsOf, isiP, OI.isTy, slcP, revP, recvOk, Meth.ty, methPre, methP, getP, isNon, isKey, isKey1, seqP, writeBack, augP]
        refine wp_item_lst x1 (by simpa using x2) fun j v hj _ => ?_
        have hv : ∃ n : Str, v = .str n := by
          have := List.mem_of_getElem? hj
          obtain ⟨n, _, h⟩ := List.mem_map.mp this
          exact ⟨n, h.symm⟩
        obtain ⟨n, hv⟩ := hv
        clear hj
        subst hv
        simp [getV, setV, setVs, dictP, itemP_dctE, cutP_take, cutP_drop, cutP_mid, primP, cmpP, truth, litP, binP, eqP, readPath, writePath, getPath, putPath, setP_dct, Pr.ks, Kc.v, OI.isLst, OI.isCnt, mutP_append, mutP_extend, mutP_pop, mutP_reverse, iterP, itemsOf, isiP, OI.isTy, slcP, revP, recvOk, Meth.ty, methPre, methP, getP, isNon, isKey, isKey1, seqP, writeBack, augP, hlt]
        exact fin (.name n) p2 _ _ _ trivial hp2
      · simp [getV, setV, setVs, dictP, itemP_dctE, cutP_take, cutP_drop, cutP_mid, primP, cmpP, truth, litP, binP, eqP, readPath, writePath, getPath, putPath, setP_dct, Pr.ks, Kc.v, OI.isLst, OI.isCnt, mutP_append, mutP_extend, mutP_pop, mutP_reverse, iterP, itemsOf, isiP, OI.isTy, slcP, revP, recvOk, Meth.ty, methPre, methP, getP, isNon, isKey, isKey1, seqP, writeBack, augP, hw3]
        refine wp_item_tup (by omega) (by simp; omega) fun j v hj _ => ?_
        have hv : ∃ af : Bool, v = .str (Str.ofString (if af then "after" else "begin")) := by
          have := List.mem_of_getElem? hj
          simp at this
          rcases this with h | h
          · exact ⟨false, h⟩
          · exact ⟨true, h⟩
        obtain ⟨af, hv⟩ := hv
        clear hj
        subst hv
        simp [getV, setV, setVs, dictP, itemP_dctE, cutP_take, cutP_drop, cutP_mid, primP, cmpP, truth, litP, binP, eqP, readPath, writePath, getPath, putPath, setP_dct, Pr.ks, Kc.v, OI.isLst, OI.isCnt, mutP_append, mutP_extend, mutP_pop, mutP_reverse, iterP, itemsOf, isiP, OI.isTy, slcP, revP, recvOk, Meth.ty, methPre, methP, getP, isNon, isKey, isKey1, seqP, writeBack, augP]
        refine wpE_call ?_
        simp [getV, setV, setVs, dictP, itemP_dctE, cutP_take, cutP_drop, cutP_mid, primP, cmpP, truth, litP, binP, eqP, readPath, writePath, getPath, putPath, setP_dct, Pr.ks, Kc.v, OI.isLst, OI.isCnt, mutP_append, mutP_extend, mutP_pop, mutP_reverse, iterP, itemsOf, isiP, OI.isTy, slcP, revP, recvOk, Meth.ty, methPre, methP, getP, isNon, isKey, isKey1, seqP, writeBack, augP]
        refine kCall_ctx (d := f__law_ladle) rfl rfl (sp_ladle' hp1 (by omega) (by omega) ?_)
        intro x p2 x1 x2 hp2
        simp [getV, setV, setVs, dictP, itemP_dctE, cutP_take, cutP_drop, cutP_mid, primP, cmpP, truth, litP, binP, eqP, readPath, writePath, getPath, putPath, setP_dct, Pr.ks, Kc.v, OI.isLst, OI.isCnt, mutP_append, mutP_extend, mutP_pop, mutP_reverse, iterP, itemsOf, isiP, OI.isTy, slcP, revP, recvOk, Meth.ty, methPre, methP, getP, isNon, isKey, isKey1, seqP, writeBack, augP]
        refine wp_item_lst x1 x2 fun j v hj _ => ?_
        obtain ⟨n0, ns, hv, hk⟩ := hl v (List.mem_of_getElem? hj)
        clear hj
        subst hv
        simp [getV, setV, setVs, dictP, itemP_dctE, cutP_take, cutP_drop, cutP_mid, primP, cmpP, truth, litP, binP, eqP, readPath, writePath, getPath, putPath, setP_dct, Pr.ks, Kc.v, OI.isLst, OI.isCnt, mutP_append, mutP_extend, mutP_pop, mutP_reverse, iterP, itemsOf, isiP, OI.isTy, slcP, revP, recvOk, Meth.ty, methPre, methP, getP, isNon, isKey, isKey1, seqP, writeBack, augP, hlt]
        exact fin (.tick af n0 ns) p2 _ _ _ hk hp2
  · rintro env ⟨p, rows, a, b, c, rfl, hp, hr, ho, hz, hx⟩
    simp [b__law_any_3, b__law_any_1]
    refine wp_whl (IAny2 (.lst (names.map .str)) (.lst labels) (.int deep) rows.length) (n := rows.length) ⟨p, rows, a, b, c, rfl, hp, rfl, by omega, ho, by omega, by omega⟩ ?_
    rintro n env ⟨p, rows', a, b, c, rfl, hp, rfl, hn1, ho, hz, hx⟩
    have hlt : rows'.length < 16777216 := by omega
    simp [getV, setV, setVs, dictP, itemP_dctE, cutP_take, cutP_drop, cutP_mid, primP, cmpP, truth, litP, binP, eqP, readPath, writePath, getPath, putPath, setP_dct, Pr.ks, Kc.v, OI.isLst, OI.isCnt, mutP_append, mutP_extend, mutP_pop, mutP_reverse, iterP, itemsOf, isiP, OI.isTy, slcP, revP, recvOk, Meth.ty, methPre, methP, getP, isNon, isKey, isKey1, seqP, writeBack, augP]
    constructor
    · intro h
      have h1 : rows'.length = 1 := by omega
      match rows', h1, ho, hz, hx with
      | [e], _, ho, hz, hx =>
        simp [getV, setV, setVs, dictP, itemP_dctE, cutP_take, cutP_drop, cutP_mid, primP, cmpP, truth, litP, binP, eqP, readPath, writePath, getPath, putPath, setP_dct, Pr.ks, Kc.v, OI.isLst, OI.isCnt, mutP_append, mutP_extend, mutP_pop, mutP_reverse, iterP, itemsOf, isiP, OI.isTy, slcP, revP, recvOk, Meth.ty, methPre, methP, getP, isNon, isKey, isKey1, seqP, writeBack, augP, kOut_retIo (d := f__law_any) rfl, hp.clean]
        simp [szs] at hz
        simp [sumX] at hx
        refine ⟨Ex.pv_clean (by omega), hQ e p (ho e (by simp)) (by omega) (by omega) hp⟩
    · intro h
      simp [b__law_any_2]
      refine wpE_call ?_
      simp [getV, setV, setVs, dictP, itemP_dctE, cutP_take, cutP_drop, cutP_mid, primP, cmpP, truth, litP, binP, eqP, readPath, writePath, getPath, putPath, setP_dct, Pr.ks, Kc.v, OI.isLst, OI.isCnt, mutP_append, mutP_extend, mutP_pop, mutP_reverse, iterP, itemsOf, isiP, OI.isTy, slcP, revP, recvOk, Meth.ty, methPre, methP, getP, isNon, isKey, isKey1, seqP, writeBack, augP]
      refine kCall_ctx (d := f__law_ladle) rfl rfl (sp_ladle' hp (by omega) (by omega) ?_)
      intro w p1 h1 h2 hp1
      obtain ⟨j, rfl⟩ := Int.eq_ofNat_of_zero_le h1
      simp [getV, setV, setVs, dictP, itemP_dctE, cutP_take, cutP_drop, cutP_mid, primP, cmpP, truth, litP, binP, eqP, readPath, writePath, getPath, putPath, setP_dct, Pr.ks, Kc.v, OI.isLst, OI.isCnt, mutP_append, mutP_extend, mutP_pop, mutP_reverse, iterP, itemsOf, isiP, OI.isTy, slcP, revP, recvOk, Meth.ty, methPre, methP, getP, isNon, isKey, isKey1, seqP, writeBack, augP]
      refine wpE_call ?_
      simp [getV, setV, setVs, dictP, itemP_dctE, cutP_take, cutP_drop, cutP_mid, primP, cmpP, truth, litP, binP, eqP, readPath, writePath, getPath, putPath, setP_dct, Pr.ks, Kc.v, OI.isLst, OI.isCnt, mutP_append, mutP_extend, mutP_pop, mutP_reverse, iterP, itemsOf, isiP, OI.isTy, slcP, revP, recvOk, Meth.ty, methPre, methP, getP, isNon, isKey, isKey1, seqP, writeBack, augP]
      refine kCall_ctx (d := f__law_ladle) rfl rfl (sp_ladle' hp1 (by omega) (by omega) ?_)
      intro s p2 s1 s2 hp2
      simp [getV, setV, setVs, dictP, itemP_dctE, cutP_take, cutP_drop, cutP_mid, primP, cmpP, truth, litP, binP, eqP, readPath, writePath, getPath, putPath, setP_dct, Pr.ks, Kc.v, OI.isLst, OI.isCnt, mutP_append, mutP_extend, mutP_pop, mutP_reverse, iterP, itemsOf, isiP, OI.isTy, slcP, revP, recvOk, Meth.ty, methPre, methP, getP, isNon, isKey, isKey1, seqP, writeBack, augP]
      refine wp_item_tup s1 (by simpa using s2) fun j' v hj _ => ?_
      have hv : ∃ o : Op3, v = .str (Str.ofString o.s) := by
        have := List.mem_of_getElem? hj
        simp at this
        rcases this with h | h | h | h
        · exact ⟨.add, h⟩
        · exact ⟨.sub, h⟩
        · exact ⟨.mul, h⟩
        · exact ⟨.sub, h⟩
      obtain ⟨o, hv⟩ := hv
      clear hj
      subst hv
      obtain ⟨l1, x, y, l2, e1, e2⟩ := mid_of (l := rows') (j := j) (by omega)
      subst e1
      have e3 : (l1.map Ex.pv).length = j := by simpa using e2
      have i1 := itemP_mid (xs := l1.map Ex.pv) (ys := y.pv :: l2.map Ex.pv) (v := x.pv) e3
      have i2 := popP_mid (xs := l1.map Ex.pv) (ys := l2.map Ex.pv) (a := x.pv) (b := y.pv) e3 (by omega)
      have i3 := setP_mid (xs := l1.map Ex.pv) (ys := l2.map Ex.pv) (a := x.pv) (v := .tup [.str (Str.ofString o.s), x.pv, y.pv]) e3
      simp [getV, setV, setVs, dictP, itemP_dctE, cutP_take, cutP_drop, cutP_mid, primP, cmpP, truth, litP, binP, eqP, readPath, writePath, getPath, putPath, setP_dct, Pr.ks, Kc.v, OI.isLst, OI.isCnt, mutP_append, mutP_extend, mutP_pop, mutP_reverse, iterP, itemsOf, isiP, OI.isTy, slcP, revP, recvOk, Meth.ty, methPre, methP, getP, isNon, isKey, isKey1, seqP, writeBack, augP, i1, i2, i3]
      refine ⟨l1.length + (l2.length + 1), by omega, p2, l1 ++ .op o x y :: l2, _, _, _, by simp [Ex.pv]; exact ⟨rfl, rfl, rfl⟩, hp2, by simp, by omega, ?_, ?_, ?_⟩
      · intro e he
        simp at he
        rcases he with he | rfl | he
        · exact ho e (by simp [he])
        · exact ⟨ho x (by simp), ho y (by simp)⟩
        · exact ho e (by simp [he])
      · simp [szs, Ex.size] at hz ⊢
        omega
      · simp [sumX, Ex.bits] at hx ⊢
        omega
end K07
set_option maxRecDepth 100000
set_option maxHeartbeats 0
namespace K07
open PySem OI
/-! ### by hand -/
theorem wd_nil : Wd [] [] (fun _ => none) := ⟨fun _ => rfl, fun _ _ h => by cases h⟩
theorem ed_nil : Ed [] [] (fun _ => none) := ⟨fun _ => rfl, fun _ _ h => by cases h⟩
def W2 (i j : Str) (n : Str) : Option Int := if i = n then some 12 else if j = n then some (-3) else none
def D2 (a : Str) (n : Str) : Option (Int × Int) := if a ++ Str.ofString "12" = n then some (4, 9) else none
theorem wd_two (i j : Str) : Wd [.str i, .str j] [.int 12, .int (-3)] (W2 i j) := by
  constructor
  · intro n
    simp only [lookP, eqP, W2, beq_iff_eq]
    by_cases h1 : i = n
    · simp [h1]
    · by_cases h2 : j = n
      · simp [h1, h2]
      · simp [h1, h2]
  · intro n x h
    simp only [W2] at h
    split at h
    · cases h; decide
    · split at h
      · cases h; decide
      · cases h
theorem ed_one (a : Str) : Ed [.str (a ++ Str.ofString "12")] [.tup [.int 4, .int 9]] (D2 a) := by
  constructor
  · intro n
    simp only [lookP, eqP, D2, beq_iff_eq]
    by_cases h1 : a ++ Str.ofString "12" = n
    · simp [h1]
    · simp [h1]
  · intro n x h
    simp only [D2] at h
    split at h
    · cases h; decide
    · cases h
theorem app_right {a b c : Str} (h : a ++ b = a ++ c) : b = c := by
  have e : ∀ x : Str, (a ++ x).cps.toList = a.cps.toList ++ x.cps.toList := fun x => by
    show (a.cps ++ x.cps).toList = _
    simp
  have : (a ++ b).cps.toList = (a ++ c).cps.toList := by rw [h]
  rw [e, e] at this
  have := List.append_cancel_left this
  exact str_ext (Array.toList_inj.mp this)
theorem all_app {a b : Str} (h1 : a.cps.all (· < 0x110000) = true) (h2 : b.cps.all (· < 0x110000) = true) : (a ++ b).cps.all (· < 0x110000) = true := by
  show (a.cps ++ b.cps).all (· < 0x110000) = true
  rw [Array.all_append, h1, h2]
  rfl
theorem hand {k : Nat} {told : List Str} {x0 x1 x3 x4 x5 x6 x7 x8 x9 x10 x11 x12 x13 x14 x15 x16 x17 x18 x19 x20 : Option PV} (ht : TOk told) (h8 : told.length = 8) :
    wp (evalSs (ctxN TT (k + 6)) b_law_2 [x0, x1, some (.lst (told.map .str)), x3, x4, x5, x6, x7, x8, x9, x10, x11, x12, x13, x14, x15, x16, x17, x18, x19, x20]) (kOut f_law (fun r => r.1 = .bl true)) := by
  match told, h8, ht with
  | [n0, n1, n2, n3, n4, a, i, j], _, ht =>
    have nd := ht.nd
    have ka := ht.as a (by simp)
    have ki := ht.as i (by simp)
    have kj := ht.as j (by simp)
    clear ht
    have n1 : a ≠ i := by rintro rfl; simp at nd
    have n2 : a ≠ j := by rintro rfl; simp at nd
    have n3 : i ≠ j := by rintro rfl; simp at nd
    clear nd
    have b3 : (i == j) = false := beq_eq_false_iff_ne.mpr n3
    have hW := wd_two i j
    have hD := ed_one a
    have wi : W2 i j i = some 12 := by simp [W2]
    have wj : W2 i j j = some (-3) := by simp [W2, n3]
    have wa : W2 i j a = none := by simp [W2, Ne.symm n1, Ne.symm n2]
    simp [b_law_2]
    simp [getV, setV, setVs, dictP, itemP_dctE, cutP_take, cutP_drop, cutP_mid, primP, cmpP, truth, litP, binP, eqP, readPath, writePath, getPath, putPath, setP_dct, Pr.ks, Kc.v, OI.isLst, OI.isCnt, mutP_append, mutP_extend, mutP_pop, mutP_reverse, iterP, itemsOf, isiP, OI.isTy, slcP, revP, recvOk, Meth.ty, methPre, methP, getP, isNon, isKey, isKey1, seqP, writeBack, augP, b3, putP]
    have l12 : (Str.ofString "12").length = 2 := by decide +kernel
    refine ⟨by omega, ?_⟩
    have la := ka.2.1
    have t12 : txt 12 = Str.ofString "12" := by decide +kernel
    have t3 : txt (-3) = Str.ofString "-3" := by decide +kernel
    have t123 : Str.ofString "12" ++ Str.ofString "-3" = Str.ofString "12-3" := by decide +kernel
    have L1 : labS (W2 i j) a [i, j] = some (a ++ Str.ofString "12-3") := by simp [labS, wi, wj, t12, t3, ← t123, PySem.Str.append_assoc]
    have L2 : labS (W2 i j) a [] = some a := rfl
    have L3 : labS (fun _ => none) a [i] = none := rfl
    have L4 : labS (W2 i j) a [i] = some (a ++ Str.ofString "12") := by simp [labS, wi, t12]
    have L5 : labS (W2 i j) a [j] = some (a ++ Str.ofString "-3") := by simp [labS, wj, t3]
    have d4 : D2 a (a ++ Str.ofString "12") = some (4, 9) := by simp [D2]
    have d5 : D2 a (a ++ Str.ofString "-3") = none := by
      have : a ++ Str.ofString "12" ≠ a ++ Str.ofString "-3" := fun h => absurd (app_right h) (by decide +kernel)
      simp [D2, this]
    refine wpE_call ?_
    simp [getV, setV, setVs, dictP, itemP_dctE, cutP_take, cutP_drop, cutP_mid, primP, cmpP, truth, litP, binP, eqP, readPath, writePath, getPath, putPath, setP_dct, Pr.ks, Kc.v, OI.isLst, OI.isCnt, mutP_append, mutP_extend, mutP_pop, mutP_reverse, iterP, itemsOf, isiP, OI.isTy, slcP, revP, recvOk, Meth.ty, methPre, methP, getP, isNon, isKey, isKey1, seqP, writeBack, augP]
    refine kCall_ctx (d := f_laid_label) rfl rfl (sp_lab (n0 := a) (ns := [i, j]) hW (by simp; omega) (by simp) ?_)
    rw [L1]
    simp [getV, setV, setVs, dictP, itemP_dctE, cutP_take, cutP_drop, cutP_mid, primP, cmpP, truth, litP, binP, eqP, readPath, writePath, getPath, putPath, setP_dct, Pr.ks, Kc.v, OI.isLst, OI.isCnt, mutP_append, mutP_extend, mutP_pop, mutP_reverse, iterP, itemsOf, isiP, OI.isTy, slcP, revP, recvOk, Meth.ty, methPre, methP, getP, isNon, isKey, isKey1, seqP, writeBack, augP, optS]
    refine wpE_call ?_
    simp [getV, setV, setVs, dictP, itemP_dctE, cutP_take, cutP_drop, cutP_mid, primP, cmpP, truth, litP, binP, eqP, readPath, writePath, getPath, putPath, setP_dct, Pr.ks, Kc.v, OI.isLst, OI.isCnt, mutP_append, mutP_extend, mutP_pop, mutP_reverse, iterP, itemsOf, isiP, OI.isTy, slcP, revP, recvOk, Meth.ty, methPre, methP, getP, isNon, isKey, isKey1, seqP, writeBack, augP]
    refine kCall_ctx (d := f_laid_label) rfl rfl (sp_lab (n0 := a) (ns := []) hW (by simp; omega) (by simp) ?_)
    rw [L2]
    simp [getV, setV, setVs, dictP, itemP_dctE, cutP_take, cutP_drop, cutP_mid, primP, cmpP, truth, litP, binP, eqP, readPath, writePath, getPath, putPath, setP_dct, Pr.ks, Kc.v, OI.isLst, OI.isCnt, mutP_append, mutP_extend, mutP_pop, mutP_reverse, iterP, itemsOf, isiP, OI.isTy, slcP, revP, recvOk, Meth.ty, methPre, methP, getP, isNon, isKey, isKey1, seqP, writeBack, augP, optS]
    refine wpE_call ?_
    simp [getV, setV, setVs, dictP, itemP_dctE, cutP_take, cutP_drop, cutP_mid, primP, cmpP, truth, litP, binP, eqP, readPath, writePath, getPath, putPath, setP_dct, Pr.ks, Kc.v, OI.isLst, OI.isCnt, mutP_append, mutP_extend, mutP_pop, mutP_reverse, iterP, itemsOf, isiP, OI.isTy, slcP, revP, recvOk, Meth.ty, methPre, methP, getP, isNon, isKey, isKey1, seqP, writeBack, augP]
    refine kCall_ctx (d := f_laid_label) rfl rfl (sp_lab (n0 := a) (ns := [i]) wd_nil (by simp; omega) (by simp) ?_)
    rw [L3]
    simp [getV, setV, setVs, dictP, itemP_dctE, cutP_take, cutP_drop, cutP_mid, primP, cmpP, truth, litP, binP, eqP, readPath, writePath, getPath, putPath, setP_dct, Pr.ks, Kc.v, OI.isLst, OI.isCnt, mutP_append, mutP_extend, mutP_pop, mutP_reverse, iterP, itemsOf, isiP, OI.isTy, slcP, revP, recvOk, Meth.ty, methPre, methP, getP, isNon, isKey, isKey1, seqP, writeBack, augP, optS]
    refine wpE_call ?_
    simp [getV, setV, setVs, dictP, itemP_dctE, cutP_take, cutP_drop, cutP_mid, primP, cmpP, truth, litP, binP, eqP, readPath, writePath, getPath, putPath, setP_dct, Pr.ks, Kc.v, OI.isLst, OI.isCnt, mutP_append, mutP_extend, mutP_pop, mutP_reverse, iterP, itemsOf, isiP, OI.isTy, slcP, revP, recvOk, Meth.ty, methPre, methP, getP, isNon, isKey, isKey1, seqP, writeBack, augP]
    refine kCall_ctx (d := f_worth_of) rfl rfl (sp_worth (ex := (.leaf (.tick false a [i]))) hW hD (show _ ∧ _ from ⟨by simp; omega, by simp⟩) (by simp [Ex.bits]) (by simp [Ex.size]) ?_)
    have E1 : Ex.ev (W2 i j) (D2 a) (.leaf (.tick false a [i])) = some 4 := by simp [Ex.ev, Kd.ev, L4, d4]
    rw [E1]
    simp [getV, setV, setVs, dictP, itemP_dctE, cutP_take, cutP_drop, cutP_mid, primP, cmpP, truth, litP, binP, eqP, readPath, writePath, getPath, putPath, setP_dct, Pr.ks, Kc.v, OI.isLst, OI.isCnt, mutP_append, mutP_extend, mutP_pop, mutP_reverse, iterP, itemsOf, isiP, OI.isTy, slcP, revP, recvOk, Meth.ty, methPre, methP, getP, isNon, isKey, isKey1, seqP, writeBack, augP, optI]
    refine wpE_call ?_
    simp [getV, setV, setVs, dictP, itemP_dctE, cutP_take, cutP_drop, cutP_mid, primP, cmpP, truth, litP, binP, eqP, readPath, writePath, getPath, putPath, setP_dct, Pr.ks, Kc.v, OI.isLst, OI.isCnt, mutP_append, mutP_extend, mutP_pop, mutP_reverse, iterP, itemsOf, isiP, OI.isTy, slcP, revP, recvOk, Meth.ty, methPre, methP, getP, isNon, isKey, isKey1, seqP, writeBack, augP]
    refine kCall_ctx (d := f_worth_of) rfl rfl (sp_worth (ex := (.leaf (.tick true a [i]))) hW hD (show _ ∧ _ from ⟨by simp; omega, by simp⟩) (by simp [Ex.bits]) (by simp [Ex.size]) ?_)
    have E2 : Ex.ev (W2 i j) (D2 a) (.leaf (.tick true a [i])) = some 9 := by simp [Ex.ev, Kd.ev, L4, d4]
    rw [E2]
    simp [getV, setV, setVs, dictP, itemP_dctE, cutP_take, cutP_drop, cutP_mid, primP, cmpP, truth, litP, binP, eqP, readPath, writePath, getPath, putPath, setP_dct, Pr.ks, Kc.v, OI.isLst, OI.isCnt, mutP_append, mutP_extend, mutP_pop, mutP_reverse, iterP, itemsOf, isiP, OI.isTy, slcP, revP, recvOk, Meth.ty, methPre, methP, getP, isNon, isKey, isKey1, seqP, writeBack, augP, optI]
    have l123 : (Str.ofString "12-3").length = 4 := by decide +kernel
    have sa : shp0 (.str a) = true := ka.2.2
    refine wpE_call ?_
    simp [getV, setV, setVs, dictP, itemP_dctE, cutP_take, cutP_drop, cutP_mid, primP, cmpP, truth, litP, binP, eqP, readPath, writePath, getPath, putPath, setP_dct, Pr.ks, Kc.v, OI.isLst, OI.isCnt, mutP_append, mutP_extend, mutP_pop, mutP_reverse, iterP, itemsOf, isiP, OI.isTy, slcP, revP, recvOk, Meth.ty, methPre, methP, getP, isNon, isKey, isKey1, seqP, writeBack, augP]
    refine ⟨by omega, ?_⟩
    have p1 : plainV (.tup [.str (a ++ Str.ofString "12-3"), .str a, .non, .int 4, .int 9]) = true := by
      have h1 := all_app ka.2.2 (okStr "12-3")
      have h2 := ka.2.2
      simp only [plainV, plainVs, h1, h2, Bool.and_self]
    refine kCall_ctx (d := f__law_same) rfl rfl (sp_same p1 (by simp [psz, pszs]) ?_)
    simp [getV, setV, setVs, dictP, itemP_dctE, cutP_take, cutP_drop, cutP_mid, primP, cmpP, truth, litP, binP, eqP, readPath, writePath, getPath, putPath, setP_dct, Pr.ks, Kc.v, OI.isLst, OI.isCnt, mutP_append, mutP_extend, mutP_pop, mutP_reverse, iterP, itemsOf, isiP, OI.isTy, slcP, revP, recvOk, Meth.ty, methPre, methP, getP, isNon, isKey, isKey1, seqP, writeBack, augP]
    simp [b_law_1]
    simp [getV, setV, setVs, dictP, itemP_dctE, cutP_take, cutP_drop, cutP_mid, primP, cmpP, truth, litP, binP, eqP, readPath, writePath, getPath, putPath, setP_dct, Pr.ks, Kc.v, OI.isLst, OI.isCnt, mutP_append, mutP_extend, mutP_pop, mutP_reverse, iterP, itemsOf, isiP, OI.isTy, slcP, revP, recvOk, Meth.ty, methPre, methP, getP, isNon, isKey, isKey1, seqP, writeBack, augP]
    refine wpE_call ?_
    simp [getV, setV, setVs, dictP, itemP_dctE, cutP_take, cutP_drop, cutP_mid, primP, cmpP, truth, litP, binP, eqP, readPath, writePath, getPath, putPath, setP_dct, Pr.ks, Kc.v, OI.isLst, OI.isCnt, mutP_append, mutP_extend, mutP_pop, mutP_reverse, iterP, itemsOf, isiP, OI.isTy, slcP, revP, recvOk, Meth.ty, methPre, methP, getP, isNon, isKey, isKey1, seqP, writeBack, augP]
    refine kCall_ctx (d := f_worth_of) rfl rfl (sp_worth (ex := (.op .sub (.op .sub (.leaf (.num 9)) (.leaf (.num 4))) (.leaf (.num 3)))) wd_nil ed_nil (by simp [Ex.Ok, Kd.Ok]) (by simp [Ex.bits]) (by simp [Ex.size]) ?_)
    have E3 : Ex.ev (fun _ => none) (fun _ => none) (.op .sub (.op .sub (.leaf (.num 9)) (.leaf (.num 4))) (.leaf (.num 3))) = some 2 := rfl
    rw [E3]
    simp [getV, setV, setVs, dictP, itemP_dctE, cutP_take, cutP_drop, cutP_mid, primP, cmpP, truth, litP, binP, eqP, readPath, writePath, getPath, putPath, setP_dct, Pr.ks, Kc.v, OI.isLst, OI.isCnt, mutP_append, mutP_extend, mutP_pop, mutP_reverse, iterP, itemsOf, isiP, OI.isTy, slcP, revP, recvOk, Meth.ty, methPre, methP, getP, isNon, isKey, isKey1, seqP, writeBack, augP, optI]
    refine wpE_call ?_
    simp [getV, setV, setVs, dictP, itemP_dctE, cutP_take, cutP_drop, cutP_mid, primP, cmpP, truth, litP, binP, eqP, readPath, writePath, getPath, putPath, setP_dct, Pr.ks, Kc.v, OI.isLst, OI.isCnt, mutP_append, mutP_extend, mutP_pop, mutP_reverse, iterP, itemsOf, isiP, OI.isTy, slcP, revP, recvOk, Meth.ty, methPre, methP, getP, isNon, isKey, isKey1, seqP, writeBack, augP]
    refine kCall_ctx (d := f_worth_of) rfl rfl (sp_worth (ex := (.op .sub (.leaf (.num 9)) (.op .sub (.leaf (.num 4)) (.leaf (.num 3))))) wd_nil ed_nil (by simp [Ex.Ok, Kd.Ok]) (by simp [Ex.bits]) (by simp [Ex.size]) ?_)
    have E4 : Ex.ev (fun _ => none) (fun _ => none) (.op .sub (.leaf (.num 9)) (.op .sub (.leaf (.num 4)) (.leaf (.num 3)))) = some 8 := rfl
    rw [E4]
    simp [getV, setV, setVs, dictP, itemP_dctE, cutP_take, cutP_drop, cutP_mid, primP, cmpP, truth, litP, binP, eqP, readPath, writePath, getPath, putPath, setP_dct, Pr.ks, Kc.v, OI.isLst, OI.isCnt, mutP_append, mutP_extend, mutP_pop, mutP_reverse, iterP, itemsOf, isiP, OI.isTy, slcP, revP, recvOk, Meth.ty, methPre, methP, getP, isNon, isKey, isKey1, seqP, writeBack, augP, optI]
    refine wpE_call ?_
    simp [getV, setV, setVs, dictP, itemP_dctE, cutP_take, cutP_drop, cutP_mid, primP, cmpP, truth, litP, binP, eqP, readPath, writePath, getPath, putPath, setP_dct, Pr.ks, Kc.v, OI.isLst, OI.isCnt, mutP_append, mutP_extend, mutP_pop, mutP_reverse, iterP, itemsOf, isiP, OI.isTy, slcP, revP, recvOk, Meth.ty, methPre, methP, getP, isNon, isKey, isKey1, seqP, writeBack, augP]
    refine kCall_ctx (d := f_worth_of) rfl rfl (sp_worth (ex := (.leaf (.tick false a [j]))) hW hD (show _ ∧ _ from ⟨by simp; omega, by simp⟩) (by simp [Ex.bits]) (by simp [Ex.size]) ?_)
    have E5 : Ex.ev (W2 i j) (D2 a) (.leaf (.tick false a [j])) = none := by simp [Ex.ev, Kd.ev, L5, d5]
    rw [E5]
    simp [getV, setV, setVs, dictP, itemP_dctE, cutP_take, cutP_drop, cutP_mid, primP, cmpP, truth, litP, binP, eqP, readPath, writePath, getPath, putPath, setP_dct, Pr.ks, Kc.v, OI.isLst, OI.isCnt, mutP_append, mutP_extend, mutP_pop, mutP_reverse, iterP, itemsOf, isiP, OI.isTy, slcP, revP, recvOk, Meth.ty, methPre, methP, getP, isNon, isKey, isKey1, seqP, writeBack, augP, optI]
    refine wpE_call ?_
    simp [getV, setV, setVs, dictP, itemP_dctE, cutP_take, cutP_drop, cutP_mid, primP, cmpP, truth, litP, binP, eqP, readPath, writePath, getPath, putPath, setP_dct, Pr.ks, Kc.v, OI.isLst, OI.isCnt, mutP_append, mutP_extend, mutP_pop, mutP_reverse, iterP, itemsOf, isiP, OI.isTy, slcP, revP, recvOk, Meth.ty, methPre, methP, getP, isNon, isKey, isKey1, seqP, writeBack, augP]
    refine kCall_ctx (d := f_worth_of) rfl rfl (sp_worth (ex := (.op .mul (.leaf (.name i)) (.leaf (.name j)))) hW hD (by simp [Ex.Ok, Kd.Ok]) (by simp [Ex.bits]) (by simp [Ex.size]) ?_)
    have E6 : Ex.ev (W2 i j) (D2 a) (.op .mul (.leaf (.name i)) (.leaf (.name j))) = some (-36) := by simp [Ex.ev, Kd.ev, wi, wj, Op3.ap]
    rw [E6]
    simp [getV, setV, setVs, dictP, itemP_dctE, cutP_take, cutP_drop, cutP_mid, primP, cmpP, truth, litP, binP, eqP, readPath, writePath, getPath, putPath, setP_dct, Pr.ks, Kc.v, OI.isLst, OI.isCnt, mutP_append, mutP_extend, mutP_pop, mutP_reverse, iterP, itemsOf, isiP, OI.isTy, slcP, revP, recvOk, Meth.ty, methPre, methP, getP, isNon, isKey, isKey1, seqP, writeBack, augP, optI]
    refine wpE_call ?_
    simp [getV, setV, setVs, dictP, itemP_dctE, cutP_take, cutP_drop, cutP_mid, primP, cmpP, truth, litP, binP, eqP, readPath, writePath, getPath, putPath, setP_dct, Pr.ks, Kc.v, OI.isLst, OI.isCnt, mutP_append, mutP_extend, mutP_pop, mutP_reverse, iterP, itemsOf, isiP, OI.isTy, slcP, revP, recvOk, Meth.ty, methPre, methP, getP, isNon, isKey, isKey1, seqP, writeBack, augP]
    refine kCall_ctx (d := f_worth_of) rfl rfl (sp_worth (ex := (.op .add (.leaf (.num 1)) (.leaf (.name a)))) hW hD (by simp [Ex.Ok, Kd.Ok]) (by simp [Ex.bits]) (by simp [Ex.size]) ?_)
    have E7 : Ex.ev (W2 i j) (D2 a) (.op .add (.leaf (.num 1)) (.leaf (.name a))) = none := by simp [Ex.ev, Kd.ev, wa, Op3.ap]
    rw [E7]
    simp [getV, setV, setVs, dictP, itemP_dctE, cutP_take, cutP_drop, cutP_mid, primP, cmpP, truth, litP, binP, eqP, readPath, writePath, getPath, putPath, setP_dct, Pr.ks, Kc.v, OI.isLst, OI.isCnt, mutP_append, mutP_extend, mutP_pop, mutP_reverse, iterP, itemsOf, isiP, OI.isTy, slcP, revP, recvOk, Meth.ty, methPre, methP, getP, isNon, isKey, isKey1, seqP, writeBack, augP, optI]
    refine wpE_call ?_
    simp [getV, setV, setVs, dictP, itemP_dctE, cutP_take, cutP_drop, cutP_mid, primP, cmpP, truth, litP, binP, eqP, readPath, writePath, getPath, putPath, setP_dct, Pr.ks, Kc.v, OI.isLst, OI.isCnt, mutP_append, mutP_extend, mutP_pop, mutP_reverse, iterP, itemsOf, isiP, OI.isTy, slcP, revP, recvOk, Meth.ty, methPre, methP, getP, isNon, isKey, isKey1, seqP, writeBack, augP]
    refine kCall_ctx (d := f_worth_of) rfl rfl (sp_worth (ex := (.leaf (.tick true a [i]))) wd_nil hD (show _ ∧ _ from ⟨by simp; omega, by simp⟩) (by simp [Ex.bits]) (by simp [Ex.size]) ?_)
    have E8 : Ex.ev (fun _ => none) (D2 a) (.leaf (.tick true a [i])) = none := rfl
    rw [E8]
    simp [getV, setV, setVs, dictP, itemP_dctE, cutP_take, cutP_drop, cutP_mid, primP, cmpP, truth, litP, binP, eqP, readPath, writePath, getPath, putPath, setP_dct, Pr.ks, Kc.v, OI.isLst, OI.isCnt, mutP_append, mutP_extend, mutP_pop, mutP_reverse, iterP, itemsOf, isiP, OI.isTy, slcP, revP, recvOk, Meth.ty, methPre, methP, getP, isNon, isKey, isKey1, seqP, writeBack, augP, optI]
    refine wpE_call ?_
    simp [getV, setV, setVs, dictP, itemP_dctE, cutP_take, cutP_drop, cutP_mid, primP, cmpP, truth, litP, binP, eqP, readPath, writePath, getPath, putPath, setP_dct, Pr.ks, Kc.v, OI.isLst, OI.isCnt, mutP_append, mutP_extend, mutP_pop, mutP_reverse, iterP, itemsOf, isiP, OI.isTy, slcP, revP, recvOk, Meth.ty, methPre, methP, getP, isNon, isKey, isKey1, seqP, writeBack, augP]
    refine kCall_ctx (d := f__law_same) rfl rfl (sp_same (by decide) (by simp [psz, pszs]) ?_)
    simp [getV, setV, setVs, dictP, itemP_dctE, cutP_take, cutP_drop, cutP_mid, primP, cmpP, truth, litP, binP, eqP, readPath, writePath, getPath, putPath, setP_dct, Pr.ks, Kc.v, OI.isLst, OI.isCnt, mutP_append, mutP_extend, mutP_pop, mutP_reverse, iterP, itemsOf, isiP, OI.isTy, slcP, revP, recvOk, Meth.ty, methPre, methP, getP, isNon, isKey, isKey1, seqP, writeBack, augP]
    refine wpE_call ?_
    simp [getV, setV, setVs, dictP, itemP_dctE, cutP_take, cutP_drop, cutP_mid, primP, cmpP, truth, litP, binP, eqP, readPath, writePath, getPath, putPath, setP_dct, Pr.ks, Kc.v, OI.isLst, OI.isCnt, mutP_append, mutP_extend, mutP_pop, mutP_reverse, iterP, itemsOf, isiP, OI.isTy, slcP, revP, recvOk, Meth.ty, methPre, methP, getP, isNon, isKey, isKey1, seqP, writeBack, augP]
    refine kCall_ctx (d := f__law_same) rfl rfl (sp_same (by decide) (by simp [psz, pszs]) ?_)
    simp [getV, setV, setVs, dictP, itemP_dctE, cutP_take, cutP_drop, cutP_mid, primP, cmpP, truth, litP, binP, eqP, readPath, writePath, getPath, putPath, setP_dct, Pr.ks, Kc.v, OI.isLst, OI.isCnt, mutP_append, mutP_extend, mutP_pop, mutP_reverse, iterP, itemsOf, isiP, OI.isTy, slcP, revP, recvOk, Meth.ty, methPre, methP, getP, isNon, isKey, isKey1, seqP, writeBack, augP]
    simp [kOut_ret (d := f_law) rfl]
end K07
set_option maxRecDepth 100000
set_option maxHeartbeats 0
namespace K07
open PySem OI
/-! ### the law's loops -/
theorem lookP_mem {k v : PV} : ∀ {ks vs : List PV}, lookP k ks vs = some v → v ∈ vs
  | q :: qs, u :: us, h => by
    simp only [lookP] at h
    split at h
    · cases h; simp
    · exact List.mem_cons_of_mem _ (lookP_mem h)
  | [], _, h => by simp [lookP] at h
  | _ :: _, [], h => by simp [lookP] at h
theorem putP_mem {k v x : PV} : ∀ {ks vs : List PV}, x ∈ (putP k v ks vs).2 → x = v ∨ x ∈ vs
  | q :: qs, u :: us, h => by
    simp only [putP] at h
    split at h
    · rcases List.mem_cons.mp h with h | h
      · exact .inl h
      · exact .inr (List.mem_cons_of_mem _ h)
    · rcases List.mem_cons.mp h with h | h
      · exact .inr (by simp [h])
      · rcases putP_mem h with h | h
        · exact .inl h
        · exact .inr (List.mem_cons_of_mem _ h)
  | [], _, h => by simp [putP] at h; exact .inl h
  | _ :: _, [], h => by simp [putP] at h; exact .inl h
theorem putP_len {k v : PV} : ∀ {ks vs : List PV}, (putP k v ks vs).1.length ≤ ks.length + 1
  | q :: qs, u :: us => by
    simp only [putP]
    split
    · simp
    · have := putP_len (k := k) (v := v) (ks := qs) (vs := us)
      simp
      exact this
  | [], _ => by simp [putP]
  | _ :: _, [] => by simp [putP]
/-- worths, whatever they are -/
structure WD (ks vs : List PV) (n : Nat) : Prop where
  len : ks.length ≤ n
  vals : ∀ v ∈ vs, ∃ i : Int, v = .int i ∧ i.natAbs < 10 ^ 12
theorem WD.wd {ks vs : List PV} {n : Nat} (h : WD ks vs n) : ∃ W, Wd ks vs W := by
  refine ⟨fun n => match lookP (.str n) ks vs with | some (.int i) => some i | _ => none, ?_, ?_⟩
  · intro n
    cases e : lookP (.str n) ks vs with
    | none => rfl
    | some v =>
      obtain ⟨i, rfl, _⟩ := h.vals v (lookP_mem e)
      rfl
  · intro n i hi
    cases e : lookP (.str n) ks vs with
    | none => rw [e] at hi; cases hi
    | some v =>
      obtain ⟨j, rfl, hj⟩ := h.vals v (lookP_mem e)
      rw [e] at hi
      cases hi
      exact hj
theorem WD.put {ks vs : List PV} {n : Nat} (h : WD ks vs n) {k : PV} {i : Int} (hi : i.natAbs < 10 ^ 12) : WD (putP k (.int i) ks vs).1 (putP k (.int i) ks vs).2 (n + 1) :=
  ⟨Nat.le_trans putP_len (Nat.succ_le_succ h.len), fun v hv => by
    rcases putP_mem hv with rfl | hv
    · exact ⟨i, rfl, hi⟩
    · exact h.vals v hv⟩
structure ED (ks vs : List PV) (n : Nat) : Prop where
  len : ks.length ≤ n
  vals : ∀ v ∈ vs, ∃ i j : Int, v = .tup [.int i, .int j] ∧ i.natAbs < 10 ^ 12 ∧ j.natAbs < 10 ^ 12
theorem ED.ed {ks vs : List PV} {n : Nat} (h : ED ks vs n) : ∃ D, Ed ks vs D := by
  refine ⟨fun n => match lookP (.str n) ks vs with | some (.tup [.int i, .int j]) => some (i, j) | _ => none, ?_, ?_⟩
  · intro n
    cases e : lookP (.str n) ks vs with
    | none => rfl
    | some v =>
      obtain ⟨i, j, rfl, _⟩ := h.vals v (lookP_mem e)
      rfl
  · intro n p hi
    cases e : lookP (.str n) ks vs with
    | none => rw [e] at hi; cases hi
    | some v =>
      obtain ⟨i, j, rfl, hj⟩ := h.vals v (lookP_mem e)
      rw [e] at hi
      cases hi
      exact hj
theorem ED.put {ks vs : List PV} {n : Nat} (h : ED ks vs n) {k : PV} {i j : Int} (hi : i.natAbs < 10 ^ 12) (hj : j.natAbs < 10 ^ 12) : ED (putP k (.tup [.int i, .int j]) ks vs).1 (putP k (.tup [.int i, .int j]) ks vs).2 (n + 1) :=
  ⟨Nat.le_trans putP_len (Nat.succ_le_succ h.len), fun v hv => by
    rcases putP_mem hv with rfl | hv
    · exact ⟨i, j, rfl, hi, hj⟩
    · exact h.vals v hv⟩
theorem ED.mono {ks vs : List PV} {n m : Nat} (h : ED ks vs n) (hm : n ≤ m) : ED ks vs m := ⟨Nat.le_trans h.len hm, h.vals⟩
def Fin1 : PV × Option PV → Prop := fun r => r.1 = .bl true
/-- the expressions -/
def IL3 (told : List Str) (labels wk wv ek ev : List PV) (env : OI.Env) : Prop := ∃ (p : PV) (x0 x4 x7 x8 x9 x10 x11 x12 x13 x14 x15 x16 x17 x18 x19 x20 : Option PV), Pot p ∧
  env = [x0, some p, some (.lst (told.map .str)), some (.dct false wk wv), x4, some (.lst labels), some (.dct false ek ev), x7, x8, x9, x10, x11, x12, x13, x14, x15, x16, x17, x18, x19, x20]
theorem part4 {k : Nat} {told : List Str} {labels wk wv ek ev : List PV} {env : OI.Env} (ht : TOk told) (h8 : told.length = 8) (hw : WD wk wv 5) (he : ED ek ev 6) (hl : ∀ v ∈ labels, Lab v) (hl1 : labels.length = 6) (hI : IL3 told labels wk wv ek ev env) :
    wp (evalSs (ctxN TT (k + 6)) b_law_4 env) (kOut f_law Fin1) := by
  obtain ⟨W, hW⟩ := hw.wd
  obtain ⟨D, hD⟩ := he.ed
  obtain ⟨p, x0, x4, x7, x8, x9, x10, x11, x12, x13, x14, x15, x16, x17, x18, x19, x20, hp, rfl⟩ := hI
  simp [b_law_4]
  have hsm : smallP 8 := by decide
  have hsm0 : smallP 0 := by decide
  simp [getV, setV, setVs, dictP, itemP_dctE, cutP_take, cutP_drop, cutP_mid, primP, cmpP, truth, litP, binP, eqP, readPath, writePath, getPath, putPath, setP_dct, Pr.ks, Kc.v, OI.isLst, OI.isCnt, mutP_append, mutP_extend, mutP_pop, mutP_reverse, iterP, itemsOf, isiP, OI.isTy, slcP, revP, recvOk, Meth.ty, methPre, methP, getP, isNon, isKey, isKey1, seqP, writeBack, augP, hsm]
  refine wp_range (fun _ env => IL3 told labels wk wv ek ev env) ⟨p, x0, x4, x7, x8, x9, x10, x11, x12, x13, x14, x15, x16, x17, x18, x19, x20, hp, rfl⟩ ?_ ?_
  · rintro i env hi ⟨p, x0, x4, x7, x8, x9, x10, x11, x12, x13, x14, x15, x16, x17, x18, x19, x20, hp, rfl⟩
    simp [b_law_3]
    simp [getV, setV, setVs, dictP, itemP_dctE, cutP_take, cutP_drop, cutP_mid, primP, cmpP, truth, litP, binP, eqP, readPath, writePath, getPath, putPath, setP_dct, Pr.ks, Kc.v, OI.isLst, OI.isCnt, mutP_append, mutP_extend, mutP_pop, mutP_reverse, iterP, itemsOf, isiP, OI.isTy, slcP, revP, recvOk, Meth.ty, methPre, methP, getP, isNon, isKey, isKey1, seqP, writeBack, augP]
    refine wpE_call ?_
    simp [getV, setV, setVs, dictP, itemP_dctE, cutP_take, cutP_drop, cutP_mid, primP, cmpP, truth, litP, binP, eqP, readPath, writePath, getPath, putPath, setP_dct, Pr.ks, Kc.v, OI.isLst, OI.isCnt, mutP_append, mutP_extend, mutP_pop, mutP_reverse, iterP, itemsOf, isiP, OI.isTy, slcP, revP, recvOk, Meth.ty, methPre, methP, getP, isNon, isKey, isKey1, seqP, writeBack, augP]
    refine wpE_call ?_
    simp [getV, setV, setVs, dictP, itemP_dctE, cutP_take, cutP_drop, cutP_mid, primP, cmpP, truth, litP, binP, eqP, readPath, writePath, getPath, putPath, setP_dct, Pr.ks, Kc.v, OI.isLst, OI.isCnt, mutP_append, mutP_extend, mutP_pop, mutP_reverse, iterP, itemsOf, isiP, OI.isTy, slcP, revP, recvOk, Meth.ty, methPre, methP, getP, isNon, isKey, isKey1, seqP, writeBack, augP]
    refine kCall_ctx (d := f__law_ladle) rfl rfl (sp_ladle' hp (by omega) (by omega) ?_)
    intro r p1 r1 r2 hp1
    simp [getV, setV, setVs, dictP, itemP_dctE, cutP_take, cutP_drop, cutP_mid, primP, cmpP, truth, litP, binP, eqP, readPath, writePath, getPath, putPath, setP_dct, Pr.ks, Kc.v, OI.isLst, OI.isCnt, mutP_append, mutP_extend, mutP_pop, mutP_reverse, iterP, itemsOf, isiP, OI.isTy, slcP, revP, recvOk, Meth.ty, methPre, methP, getP, isNon, isKey, isKey1, seqP, writeBack, augP]
    refine wp_item_tup (by split <;> omega) (by simp; split <;> omega) fun j v hj _ => ?_
    have hv : ∃ ns : List Str, v = .lst (ns.map .str) ∧ 1 ≤ ns.length ∧ ns.length ≤ 1000 := by
      have := List.mem_of_getElem? hj
      simp at this
      rcases this with h | h
      · exact ⟨told.take 5, by simp [h], by simp; omega, by simp; omega⟩
      · exact ⟨told.take 6, by simp [h], by simp; omega, by simp; omega⟩
    obtain ⟨ns, hv, n1, n2⟩ := hv
    clear hj
    subst hv
    simp [getV, setV, setVs, dictP, itemP_dctE, cutP_take, cutP_drop, cutP_mid, primP, cmpP, truth, litP, binP, eqP, readPath, writePath, getPath, putPath, setP_dct, Pr.ks, Kc.v, OI.isLst, OI.isCnt, mutP_append, mutP_extend, mutP_pop, mutP_reverse, iterP, itemsOf, isiP, OI.isTy, slcP, revP, recvOk, Meth.ty, methPre, methP, getP, isNon, isKey, isKey1, seqP, writeBack, augP]
    refine wpE_call ?_
    simp [getV, setV, setVs, dictP, itemP_dctE, cutP_take, cutP_drop, cutP_mid, primP, cmpP, truth, litP, binP, eqP, readPath, writePath, getPath, putPath, setP_dct, Pr.ks, Kc.v, OI.isLst, OI.isCnt, mutP_append, mutP_extend, mutP_pop, mutP_reverse, iterP, itemsOf, isiP, OI.isTy, slcP, revP, recvOk, Meth.ty, methPre, methP, getP, isNon, isKey, isKey1, seqP, writeBack, augP]
    refine kCall_ctx (d := f__law_ladle) rfl rfl (sp_ladle' hp1 (by omega) (by omega) ?_)
    intro d p2 d1 d2 hp2
    simp [getV, setV, setVs, dictP, itemP_dctE, cutP_take, cutP_drop, cutP_mid, primP, cmpP, truth, litP, binP, eqP, readPath, writePath, getPath, putPath, setP_dct, Pr.ks, Kc.v, OI.isLst, OI.isCnt, mutP_append, mutP_extend, mutP_pop, mutP_reverse, iterP, itemsOf, isiP, OI.isTy, slcP, revP, recvOk, Meth.ty, methPre, methP, getP, isNon, isKey, isKey1, seqP, writeBack, augP]
    refine kCall_ctx (d := f__law_any) rfl rfl (sp_any hp2 n1 n2 hl (by omega) (by omega) d1 (by omega) fun e p3 e1 e2 e3 hp3 => ?_)
    simp [getV, setV, setVs, dictP, itemP_dctE, cutP_take, cutP_drop, cutP_mid, primP, cmpP, truth, litP, binP, eqP, readPath, writePath, getPath, putPath, setP_dct, Pr.ks, Kc.v, OI.isLst, OI.isCnt, mutP_append, mutP_extend, mutP_pop, mutP_reverse, iterP, itemsOf, isiP, OI.isTy, slcP, revP, recvOk, Meth.ty, methPre, methP, getP, isNon, isKey, isKey1, seqP, writeBack, augP]
    refine wpE_call ?_
    simp [getV, setV, setVs, dictP, itemP_dctE, cutP_take, cutP_drop, cutP_mid, primP, cmpP, truth, litP, binP, eqP, readPath, writePath, getPath, putPath, setP_dct, Pr.ks, Kc.v, OI.isLst, OI.isCnt, mutP_append, mutP_extend, mutP_pop, mutP_reverse, iterP, itemsOf, isiP, OI.isTy, slcP, revP, recvOk, Meth.ty, methPre, methP, getP, isNon, isKey, isKey1, seqP, writeBack, augP]
    refine wpE_call ?_
    simp [getV, setV, setVs, dictP, itemP_dctE, cutP_take, cutP_drop, cutP_mid, primP, cmpP, truth, litP, binP, eqP, readPath, writePath, getPath, putPath, setP_dct, Pr.ks, Kc.v, OI.isLst, OI.isCnt, mutP_append, mutP_extend, mutP_pop, mutP_reverse, iterP, itemsOf, isiP, OI.isTy, slcP, revP, recvOk, Meth.ty, methPre, methP, getP, isNon, isKey, isKey1, seqP, writeBack, augP]
    refine kCall_ctx (d := f_worth_of) rfl rfl (sp_worth hW hD e1 e2 (by omega) ?_)
    simp [getV, setV, setVs, dictP, itemP_dctE, cutP_take, cutP_drop, cutP_mid, primP, cmpP, truth, litP, binP, eqP, readPath, writePath, getPath, putPath, setP_dct, Pr.ks, Kc.v, OI.isLst, OI.isCnt, mutP_append, mutP_extend, mutP_pop, mutP_reverse, iterP, itemsOf, isiP, OI.isTy, slcP, revP, recvOk, Meth.ty, methPre, methP, getP, isNon, isKey, isKey1, seqP, writeBack, augP]
    refine wpE_call ?_
    simp [getV, setV, setVs, dictP, itemP_dctE, cutP_take, cutP_drop, cutP_mid, primP, cmpP, truth, litP, binP, eqP, readPath, writePath, getPath, putPath, setP_dct, Pr.ks, Kc.v, OI.isLst, OI.isCnt, mutP_append, mutP_extend, mutP_pop, mutP_reverse, iterP, itemsOf, isiP, OI.isTy, slcP, revP, recvOk, Meth.ty, methPre, methP, getP, isNon, isKey, isKey1, seqP, writeBack, augP]
    refine kCall_ctx (d := f__law_worth) rfl rfl (sp_lawworth hW hD e1 e2 e3 ?_)
    simp [getV, setV, setVs, dictP, itemP_dctE, cutP_take, cutP_drop, cutP_mid, primP, cmpP, truth, litP, binP, eqP, readPath, writePath, getPath, putPath, setP_dct, Pr.ks, Kc.v, OI.isLst, OI.isCnt, mutP_append, mutP_extend, mutP_pop, mutP_reverse, iterP, itemsOf, isiP, OI.isTy, slcP, revP, recvOk, Meth.ty, methPre, methP, getP, isNon, isKey, isKey1, seqP, writeBack, augP]
    have hpl : plainV (optI (e.ev W D)) = true := by cases e.ev W D <;> rfl
    have hps : psz (optI (e.ev W D)) = 1 := by cases e.ev W D <;> rfl
    refine kCall_ctx (d := f__law_same) rfl rfl (sp_same hpl (by omega) ?_)
    simp [getV, setV, setVs, dictP, itemP_dctE, cutP_take, cutP_drop, cutP_mid, primP, cmpP, truth, litP, binP, eqP, readPath, writePath, getPath, putPath, setP_dct, Pr.ks, Kc.v, OI.isLst, OI.isCnt, mutP_append, mutP_extend, mutP_pop, mutP_reverse, iterP, itemsOf, isiP, OI.isTy, slcP, revP, recvOk, Meth.ty, methPre, methP, getP, isNon, isKey, isKey1, seqP, writeBack, augP]
    exact ⟨p3, _, _, _, _, _, _, _, _, _, _, _, _, _, _, _, _, hp3, rfl⟩
  · rintro env ⟨p, x0, x4, x7, x8, x9, x10, x11, x12, x13, x14, x15, x16, x17, x18, x19, x20, hp, rfl⟩
    simp
    exact hand ht h8
theorem plain_optS {W : Str → Option Int} : ∀ {a : Str} (h : a.cps.all (· < 0x110000) = true) (ns : List Str), plainV (optS (labS W a ns)) = true
  | a, h, [] => h
  | a, h, n :: ns => by
    simp only [labS]
    cases e : W n with
    | none => rfl
    | some i => exact plain_optS (all_app h (okStr _)) ns
/-- the labels -/
def IL2 (told : List Str) (wk wv : List PV) (i : Nat) (env : OI.Env) : Prop := ∃ (p : PV) (labels ek ev : List PV) (x0 x4 x7 x8 x9 x10 x11 x12 x13 x14 x15 x16 x17 x18 x19 x20 : Option PV), Pot p ∧ (∀ v ∈ labels, Lab v) ∧ labels.length = i ∧ ED ek ev i ∧
  env = [x0, some p, some (.lst (told.map .str)), some (.dct false wk wv), x4, some (.lst labels), some (.dct false ek ev), x7, x8, x9, x10, x11, x12, x13, x14, x15, x16, x17, x18, x19, x20]
/-- a label grows -/
def IL2b (told : List Str) (labels wk wv ek ev : List PV) (i : Nat) (env : OI.Env) : Prop := ∃ (p : PV) (n0 : Str) (ns : List Str) (v8 : PV) (x0 x4 x7 x9 x10 x11 x12 x13 x14 x15 x16 x17 x18 x19 x20 : Option PV), Pot p ∧ (n0.length ≤ 8 ∧ n0.cps.all (· < 0x110000) = true) ∧ ns.length = i ∧ v8 = .tup ((n0 :: ns).map .str) ∧
  env = [x0, some p, some (.lst (told.map .str)), some (.dct false wk wv), x4, some (.lst labels), some (.dct false ek ev), x7, some v8, x9, x10, x11, x12, x13, x14, x15, x16, x17, x18, x19, x20]
theorem part9 {k : Nat} {told : List Str} {wk wv : List PV} {p : PV} {x0 x4 x5 x6 x7 x8 x9 x10 x11 x12 x13 x14 x15 x16 x17 x18 x19 x20 : Option PV} (ht : TOk told) (h8 : told.length = 8) (hw : WD wk wv 5) (hp : Pot p) :
    wp (evalSs (ctxN TT (k + 6)) b_law_9 [x0, some p, some (.lst (told.map .str)), some (.dct false wk wv), x4, x5, x6, x7, x8, x9, x10, x11, x12, x13, x14, x15, x16, x17, x18, x19, x20]) (kOut f_law Fin1) := by
  obtain ⟨W, hW⟩ := hw.wd
  simp [b_law_9]
  have hsm : smallP 6 := by decide
  have hsm0 : smallP 0 := by decide
  have name_at : ∀ {r : Int} {R : PV → Prop}, 0 ≤ r → r < 8 → (∀ n : Str, n.length ≤ 8 ∧ n.cps.all (· < 0x110000) = true → R (.str n)) → wp (itemP (.lst (told.map .str)) (.int r)) R := fun h0 h1 h => by
    refine wp_item_lst h0 (by simp; omega) fun j v hj _ => ?_
    obtain ⟨n, hn, rfl⟩ := List.mem_map.mp (List.mem_of_getElem? hj)
    exact h n (ht.as n hn).2
  simp [getV, setV, setVs, dictP, itemP_dctE, cutP_take, cutP_drop, cutP_mid, primP, cmpP, truth, litP, binP, eqP, readPath, writePath, getPath, putPath, setP_dct, Pr.ks, Kc.v, OI.isLst, OI.isCnt, mutP_append, mutP_extend, mutP_pop, mutP_reverse, iterP, itemsOf, isiP, OI.isTy, slcP, revP, recvOk, Meth.ty, methPre, methP, getP, isNon, isKey, isKey1, seqP, writeBack, augP, hsm]
  refine wp_range (IL2 told wk wv) ⟨p, [], [], [], _, _, _, _, _, _, _, _, _, _, _, _, _, _, _, _, hp, by simp, rfl, ⟨by simp, by simp⟩, rfl⟩ ?_ ?_
  · rintro i env hi ⟨p, labels, ek, ev, x0, x4, x7, x8, x9, x10, x11, x12, x13, x14, x15, x16, x17, x18, x19, x20, hp, hl, hl1, hE, rfl⟩
    simp [b_law_8]
    simp [getV, setV, setVs, dictP, itemP_dctE, cutP_take, cutP_drop, cutP_mid, primP, cmpP, truth, litP, binP, eqP, readPath, writePath, getPath, putPath, setP_dct, Pr.ks, Kc.v, OI.isLst, OI.isCnt, mutP_append, mutP_extend, mutP_pop, mutP_reverse, iterP, itemsOf, isiP, OI.isTy, slcP, revP, recvOk, Meth.ty, methPre, methP, getP, isNon, isKey, isKey1, seqP, writeBack, augP]
    refine wpE_call ?_
    simp [getV, setV, setVs, dictP, itemP_dctE, cutP_take, cutP_drop, cutP_mid, primP, cmpP, truth, litP, binP, eqP, readPath, writePath, getPath, putPath, setP_dct, Pr.ks, Kc.v, OI.isLst, OI.isCnt, mutP_append, mutP_extend, mutP_pop, mutP_reverse, iterP, itemsOf, isiP, OI.isTy, slcP, revP, recvOk, Meth.ty, methPre, methP, getP, isNon, isKey, isKey1, seqP, writeBack, augP]
    refine kCall_ctx (d := f__law_ladle) rfl rfl (sp_ladle' hp (by omega) (by omega) ?_)
    intro r p1 r1 r2 hp1
    simp [getV, setV, setVs, dictP, itemP_dctE, cutP_take, cutP_drop, cutP_mid, primP, cmpP, truth, litP, binP, eqP, readPath, writePath, getPath, putPath, setP_dct, Pr.ks, Kc.v, OI.isLst, OI.isCnt, mutP_append, mutP_extend, mutP_pop, mutP_reverse, iterP, itemsOf, isiP, OI.isTy, slcP, revP, recvOk, Meth.ty, methPre, methP, getP, isNon, isKey, isKey1, seqP, writeBack, augP]
    refine name_at (by omega) (by omega) fun n0 hn0 => ?_
    simp [getV, setV, setVs, dictP, itemP_dctE, cutP_take, cutP_drop, cutP_mid, primP, cmpP, truth, litP, binP, eqP, readPath, writePath, getPath, putPath, setP_dct, Pr.ks, Kc.v, OI.isLst, OI.isCnt, mutP_append, mutP_extend, mutP_pop, mutP_reverse, iterP, itemsOf, isiP, OI.isTy, slcP, revP, recvOk, Meth.ty, methPre, methP, getP, isNon, isKey, isKey1, seqP, writeBack, augP]
    refine wpE_call ?_
    simp [getV, setV, setVs, dictP, itemP_dctE, cutP_take, cutP_drop, cutP_mid, primP, cmpP, truth, litP, binP, eqP, readPath, writePath, getPath, putPath, setP_dct, Pr.ks, Kc.v, OI.isLst, OI.isCnt, mutP_append, mutP_extend, mutP_pop, mutP_reverse, iterP, itemsOf, isiP, OI.isTy, slcP, revP, recvOk, Meth.ty, methPre, methP, getP, isNon, isKey, isKey1, seqP, writeBack, augP]
    refine kCall_ctx (d := f__law_ladle) rfl rfl (sp_ladle' hp1 (by omega) (by omega) ?_)
    intro r p2 r1 r2 hp2
    have hsr : smallP r := by constructor <;> omega
    simp [getV, setV, setVs, dictP, itemP_dctE, cutP_take, cutP_drop, cutP_mid, primP, cmpP, truth, litP, binP, eqP, readPath, writePath, getPath, putPath, setP_dct, Pr.ks, Kc.v, OI.isLst, OI.isCnt, mutP_append, mutP_extend, mutP_pop, mutP_reverse, iterP, itemsOf, isiP, OI.isTy, slcP, revP, recvOk, Meth.ty, methPre, methP, getP, isNon, isKey, isKey1, seqP, writeBack, augP, hsr]
    refine wp_range (IL2b told labels wk wv ek ev) ⟨p2, n0, [], _, _, _, _, _, _, _, _, _, _, _, _, _, _, _, _, hp2, hn0, rfl, rfl, rfl⟩ ?_ ?_
    · rintro i env hi ⟨p, n0, ns, v8, x0, x4, x7, x9, x10, x11, x12, x13, x14, x15, x16, x17, x18, x19, x20, hp, hn0, hns, rfl, rfl⟩
      simp [b_law_7]
      simp [getV, setV, setVs, dictP, itemP_dctE, cutP_take, cutP_drop, cutP_mid, primP, cmpP, truth, litP, binP, eqP, readPath, writePath, getPath, putPath, setP_dct, Pr.ks, Kc.v, OI.isLst, OI.isCnt, mutP_append, mutP_extend, mutP_pop, mutP_reverse, iterP, itemsOf, isiP, OI.isTy, slcP, revP, recvOk, Meth.ty, methPre, methP, getP, isNon, isKey, isKey1, seqP, writeBack, augP]
      refine wpE_call ?_
      simp [getV, setV, setVs, dictP, itemP_dctE, cutP_take, cutP_drop, cutP_mid, primP, cmpP, truth, litP, binP, eqP, readPath, writePath, getPath, putPath, setP_dct, Pr.ks, Kc.v, OI.isLst, OI.isCnt, mutP_append, mutP_extend, mutP_pop, mutP_reverse, iterP, itemsOf, isiP, OI.isTy, slcP, revP, recvOk, Meth.ty, methPre, methP, getP, isNon, isKey, isKey1, seqP, writeBack, augP]
      refine wpE_call ?_
      simp [getV, setV, setVs, dictP, itemP_dctE, cutP_take, cutP_drop, cutP_mid, primP, cmpP, truth, litP, binP, eqP, readPath, writePath, getPath, putPath, setP_dct, Pr.ks, Kc.v, OI.isLst, OI.isCnt, mutP_append, mutP_extend, mutP_pop, mutP_reverse, iterP, itemsOf, isiP, OI.isTy, slcP, revP, recvOk, Meth.ty, methPre, methP, getP, isNon, isKey, isKey1, seqP, writeBack, augP]
      refine kCall_ctx (d := f__law_ladle) rfl rfl (sp_ladle' hp (by omega) (by omega) ?_)
      intro r p1 r1 r2 hp1
      simp [getV, setV, setVs, dictP, itemP_dctE, cutP_take, cutP_drop, cutP_mid, primP, cmpP, truth, litP, binP, eqP, readPath, writePath, getPath, putPath, setP_dct, Pr.ks, Kc.v, OI.isLst, OI.isCnt, mutP_append, mutP_extend, mutP_pop, mutP_reverse, iterP, itemsOf, isiP, OI.isTy, slcP, revP, recvOk, Meth.ty, methPre, methP, getP, isNon, isKey, isKey1, seqP, writeBack, augP]
      refine wp_item_tup (by split <;> omega) (by simp; split <;> omega) fun j v hj _ => ?_
      have hv : ∃ m : Int, v = .int m ∧ 1 ≤ m ∧ m ≤ 8 := by
        have := List.mem_of_getElem? hj
        simp at this
        rcases this with h | h
        · exact ⟨5, h, by omega, by omega⟩
        · exact ⟨8, h, by omega, by omega⟩
      obtain ⟨m, hv, m1, m2⟩ := hv
      clear hj
      subst hv
      simp [getV, setV, setVs, dictP, itemP_dctE, cutP_take, cutP_drop, cutP_mid, primP, cmpP, truth, litP, binP, eqP, readPath, writePath, getPath, putPath, setP_dct, Pr.ks, Kc.v, OI.isLst, OI.isCnt, mutP_append, mutP_extend, mutP_pop, mutP_reverse, iterP, itemsOf, isiP, OI.isTy, slcP, revP, recvOk, Meth.ty, methPre, methP, getP, isNon, isKey, isKey1, seqP, writeBack, augP]
      refine kCall_ctx (d := f__law_ladle) rfl rfl (sp_ladle' hp1 (by omega) (by omega) ?_)
      intro r p2 r1 r2 hp2
      simp [getV, setV, setVs, dictP, itemP_dctE, cutP_take, cutP_drop, cutP_mid, primP, cmpP, truth, litP, binP, eqP, readPath, writePath, getPath, putPath, setP_dct, Pr.ks, Kc.v, OI.isLst, OI.isCnt, mutP_append, mutP_extend, mutP_pop, mutP_reverse, iterP, itemsOf, isiP, OI.isTy, slcP, revP, recvOk, Meth.ty, methPre, methP, getP, isNon, isKey, isKey1, seqP, writeBack, augP]
      refine name_at (by omega) (by omega) fun n1 hn1 => ?_
      simp [getV, setV, setVs, dictP, itemP_dctE, cutP_take, cutP_drop, cutP_mid, primP, cmpP, truth, litP, binP, eqP, readPath, writePath, getPath, putPath, setP_dct, Pr.ks, Kc.v, OI.isLst, OI.isCnt, mutP_append, mutP_extend, mutP_pop, mutP_reverse, iterP, itemsOf, isiP, OI.isTy, slcP, revP, recvOk, Meth.ty, methPre, methP, getP, isNon, isKey, isKey1, seqP, writeBack, augP]
      exact ⟨by omega, p2, n0, ns ++ [n1], _, _, _, _, _, _, _, _, _, _, _, _, _, _, _, _, hp2, hn0, by simp [hns], by simp, rfl⟩
    · rintro env ⟨p, n0, ns, v8, x0, x4, x7, x9, x10, x11, x12, x13, x14, x15, x16, x17, x18, x19, x20, hp, hn0, hns, rfl, rfl⟩
      simp [b_law_6]
      have hlen : ns.length ≤ 3 := by omega
      have hlab : Lab (.tup ((n0 :: ns).map .str)) := ⟨n0, ns, rfl, by omega, by omega⟩
      have hpl := plain_optS (W := W) hn0.2 ns
      have hps : psz (optS (labS W n0 ns)) = 1 := by cases labS W n0 ns <;> rfl
      have hlt : labels.length < 16777216 := by omega
      refine wpE_call ?_
      simp [getV, setV, setVs, dictP, itemP_dctE, cutP_take, cutP_drop, cutP_mid, primP, cmpP, truth, litP, binP, eqP, readPath, writePath, getPath, putPath, setP_dct, Pr.ks, Kc.v, OI.isLst, OI.isCnt, mutP_append, mutP_extend, mutP_pop, mutP_reverse, iterP, itemsOf, isiP, OI.isTy, slcP, revP, recvOk, Meth.ty, methPre, methP, getP, isNon, isKey, isKey1, seqP, writeBack, augP]
      refine wpE_call ?_
      simp [getV, setV, setVs, dictP, itemP_dctE, cutP_take, cutP_drop, cutP_mid, primP, cmpP, truth, litP, binP, eqP, readPath, writePath, getPath, putPath, setP_dct, Pr.ks, Kc.v, OI.isLst, OI.isCnt, mutP_append, mutP_extend, mutP_pop, mutP_reverse, iterP, itemsOf, isiP, OI.isTy, slcP, revP, recvOk, Meth.ty, methPre, methP, getP, isNon, isKey, isKey1, seqP, writeBack, augP]
      refine kCall_ctx (d := f_laid_label) rfl rfl (sp_lab (n0 := n0) (ns := ns) hW (by omega) (by omega) ?_)
      simp [getV, setV, setVs, dictP, itemP_dctE, cutP_take, cutP_drop, cutP_mid, primP, cmpP, truth, litP, binP, eqP, readPath, writePath, getPath, putPath, setP_dct, Pr.ks, Kc.v, OI.isLst, OI.isCnt, mutP_append, mutP_extend, mutP_pop, mutP_reverse, iterP, itemsOf, isiP, OI.isTy, slcP, revP, recvOk, Meth.ty, methPre, methP, getP, isNon, isKey, isKey1, seqP, writeBack, augP]
      refine wpE_call ?_
      simp [getV, setV, setVs, dictP, itemP_dctE, cutP_take, cutP_drop, cutP_mid, primP, cmpP, truth, litP, binP, eqP, readPath, writePath, getPath, putPath, setP_dct, Pr.ks, Kc.v, OI.isLst, OI.isCnt, mutP_append, mutP_extend, mutP_pop, mutP_reverse, iterP, itemsOf, isiP, OI.isTy, slcP, revP, recvOk, Meth.ty, methPre, methP, getP, isNon, isKey, isKey1, seqP, writeBack, augP]
      refine kCall_ctx (d := f__law_laid_label) rfl rfl (sp_lawlab (n0 := n0) (ns := ns) hW (by omega) ?_)
      simp [getV, setV, setVs, dictP, itemP_dctE, cutP_take, cutP_drop, cutP_mid, primP, cmpP, truth, litP, binP, eqP, readPath, writePath, getPath, putPath, setP_dct, Pr.ks, Kc.v, OI.isLst, OI.isCnt, mutP_append, mutP_extend, mutP_pop, mutP_reverse, iterP, itemsOf, isiP, OI.isTy, slcP, revP, recvOk, Meth.ty, methPre, methP, getP, isNon, isKey, isKey1, seqP, writeBack, augP]
      refine kCall_ctx (d := f__law_same) rfl rfl (sp_same hpl (by omega) ?_)
      simp [getV, setV, setVs, dictP, itemP_dctE, cutP_take, cutP_drop, cutP_mid, primP, cmpP, truth, litP, binP, eqP, readPath, writePath, getPath, putPath, setP_dct, Pr.ks, Kc.v, OI.isLst, OI.isCnt, mutP_append, mutP_extend, mutP_pop, mutP_reverse, iterP, itemsOf, isiP, OI.isTy, slcP, revP, recvOk, Meth.ty, methPre, methP, getP, isNon, isKey, isKey1, seqP, writeBack, augP]
      have fin : ∀ (p : PV) (ek ev : List PV) (x0 x4 x7 x8 x9 x10 x11 x12 x13 x14 x15 x16 x17 x18 x19 x20 : Option PV), Pot p → ED ek ev (i + 1) → IL2 told wk wv (i + 1) [x0, some p, some (.lst (told.map .str)), some (.dct false wk wv), x4, some (.lst (labels ++ [.tup (.str n0 :: ns.map .str)])), some (.dct false ek ev), x7, x8, x9, x10, x11, x12, x13, x14, x15, x16, x17, x18, x19, x20] := fun p ek ev x0 x4 x7 x8 x9 x10 x11 x12 x13 x14 x15 x16 x17 x18 x19 x20 hp hE =>
        ⟨p, _, ek, ev, _, _, _, _, _, _, _, _, _, _, _, _, _, _, _, _, hp, by
          intro v hv
          rcases List.mem_append.mp hv with hv | hv
          · exact hl v hv
          · simp at hv
            subst hv
            exact hlab, by simp [hl1], hE, rfl⟩
      have hEl := hE.len
      simp [b_law_5]
      simp [getV, setV, setVs, dictP, itemP_dctE, cutP_take, cutP_drop, cutP_mid, primP, cmpP, truth, litP, binP, eqP, readPath, writePath, getPath, putPath, setP_dct, Pr.ks, Kc.v, OI.isLst, OI.isCnt, mutP_append, mutP_extend, mutP_pop, mutP_reverse, iterP, itemsOf, isiP, OI.isTy, slcP, revP, recvOk, Meth.ty, methPre, methP, getP, isNon, isKey, isKey1, seqP, writeBack, augP, hlt]
      refine wpE_call ?_
      simp [getV, setV, setVs, dictP, itemP_dctE, cutP_take, cutP_drop, cutP_mid, primP, cmpP, truth, litP, binP, eqP, readPath, writePath, getPath, putPath, setP_dct, Pr.ks, Kc.v, OI.isLst, OI.isCnt, mutP_append, mutP_extend, mutP_pop, mutP_reverse, iterP, itemsOf, isiP, OI.isTy, slcP, revP, recvOk, Meth.ty, methPre, methP, getP, isNon, isKey, isKey1, seqP, writeBack, augP]
      refine kCall_ctx (d := f__law_laid_label) rfl rfl (sp_lawlab (n0 := n0) (ns := ns) hW (by omega) ?_)
      simp [getV, setV, setVs, dictP, itemP_dctE, cutP_take, cutP_drop, cutP_mid, primP, cmpP, truth, litP, binP, eqP, readPath, writePath, getPath, putPath, setP_dct, Pr.ks, Kc.v, OI.isLst, OI.isCnt, mutP_append, mutP_extend, mutP_pop, mutP_reverse, iterP, itemsOf, isiP, OI.isTy, slcP, revP, recvOk, Meth.ty, methPre, methP, getP, isNon, isKey, isKey1, seqP, writeBack, augP]
      cases hL : labS W n0 ns with
      | none =>
        simp [getV, setV, setVs, dictP, itemP_dctE, cutP_take, cutP_drop, cutP_mid, primP, cmpP, truth, litP, binP, eqP, readPath, writePath, getPath, putPath, setP_dct, Pr.ks, Kc.v, OI.isLst, OI.isCnt, mutP_append, mutP_extend, mutP_pop, mutP_reverse, iterP, itemsOf, isiP, OI.isTy, slcP, revP, recvOk, Meth.ty, methPre, methP, getP, isNon, isKey, isKey1, seqP, writeBack, augP, optS]
        exact fin _ _ _ _ _ _ _ _ _ _ _ _ _ _ _ _ _ _ _ hp (hE.mono (by omega))
      | some s =>
        simp [getV, setV, setVs, dictP, itemP_dctE, cutP_take, cutP_drop, cutP_mid, primP, cmpP, truth, litP, binP, eqP, readPath, writePath, getPath, putPath, setP_dct, Pr.ks, Kc.v, OI.isLst, OI.isCnt, mutP_append, mutP_extend, mutP_pop, mutP_reverse, iterP, itemsOf, isiP, OI.isTy, slcP, revP, recvOk, Meth.ty, methPre, methP, getP, isNon, isKey, isKey1, seqP, writeBack, augP, optS]
        refine wpE_call ?_
        simp [getV, setV, setVs, dictP, itemP_dctE, cutP_take, cutP_drop, cutP_mid, primP, cmpP, truth, litP, binP, eqP, readPath, writePath, getPath, putPath, setP_dct, Pr.ks, Kc.v, OI.isLst, OI.isCnt, mutP_append, mutP_extend, mutP_pop, mutP_reverse, iterP, itemsOf, isiP, OI.isTy, slcP, revP, recvOk, Meth.ty, methPre, methP, getP, isNon, isKey, isKey1, seqP, writeBack, augP]
        refine kCall_ctx (d := f__law_ladle) rfl rfl (sp_ladle' hp (by omega) (by omega) ?_)
        intro r p1 r1 r2 hp1
        simp [getV, setV, setVs, dictP, itemP_dctE, cutP_take, cutP_drop, cutP_mid, primP, cmpP, truth, litP, binP, eqP, readPath, writePath, getPath, putPath, setP_dct, Pr.ks, Kc.v, OI.isLst, OI.isCnt, mutP_append, mutP_extend, mutP_pop, mutP_reverse, iterP, itemsOf, isiP, OI.isTy, slcP, revP, recvOk, Meth.ty, methPre, methP, getP, isNon, isKey, isKey1, seqP, writeBack, augP]
        by_cases hr : 0 < r
        · simp [getV, setV, setVs, dictP, itemP_dctE, cutP_take, cutP_drop, cutP_mid, primP, cmpP, truth, litP, binP, eqP, readPath, writePath, getPath, putPath, setP_dct, Pr.ks, Kc.v, OI.isLst, OI.isCnt, mutP_append, mutP_extend, mutP_pop, mutP_reverse, iterP, itemsOf, isiP, OI.isTy, slcP, revP, recvOk, Meth.ty, methPre, methP, getP, isNon, isKey, isKey1, seqP, writeBack, augP, hr]
          refine wpE_call ?_
          simp [getV, setV, setVs, dictP, itemP_dctE, cutP_take, cutP_drop, cutP_mid, primP, cmpP, truth, litP, binP, eqP, readPath, writePath, getPath, putPath, setP_dct, Pr.ks, Kc.v, OI.isLst, OI.isCnt, mutP_append, mutP_extend, mutP_pop, mutP_reverse, iterP, itemsOf, isiP, OI.isTy, slcP, revP, recvOk, Meth.ty, methPre, methP, getP, isNon, isKey, isKey1, seqP, writeBack, augP]
          refine kCall_ctx (d := f__law_ladle) rfl rfl (sp_ladle' hp1 (by omega) (by omega) ?_)
          intro b p2 b1 b2 hp2
          simp [getV, setV, setVs, dictP, itemP_dctE, cutP_take, cutP_drop, cutP_mid, primP, cmpP, truth, litP, binP, eqP, readPath, writePath, getPath, putPath, setP_dct, Pr.ks, Kc.v, OI.isLst, OI.isCnt, mutP_append, mutP_extend, mutP_pop, mutP_reverse, iterP, itemsOf, isiP, OI.isTy, slcP, revP, recvOk, Meth.ty, methPre, methP, getP, isNon, isKey, isKey1, seqP, writeBack, augP]
          refine wpE_call ?_
          simp [getV, setV, setVs, dictP, itemP_dctE, cutP_take, cutP_drop, cutP_mid, primP, cmpP, truth, litP, binP, eqP, readPath, writePath, getPath, putPath, setP_dct, Pr.ks, Kc.v, OI.isLst, OI.isCnt, mutP_append, mutP_extend, mutP_pop, mutP_reverse, iterP, itemsOf, isiP, OI.isTy, slcP, revP, recvOk, Meth.ty, methPre, methP, getP, isNon, isKey, isKey1, seqP, writeBack, augP]
          refine kCall_ctx (d := f__law_ladle) rfl rfl (sp_ladle' hp2 (by omega) (by omega) ?_)
          intro c p3 c1 c2 hp3
          simp [getV, setV, setVs, dictP, itemP_dctE, cutP_take, cutP_drop, cutP_mid, primP, cmpP, truth, litP, binP, eqP, readPath, writePath, getPath, putPath, setP_dct, Pr.ks, Kc.v, OI.isLst, OI.isCnt, mutP_append, mutP_extend, mutP_pop, mutP_reverse, iterP, itemsOf, isiP, OI.isTy, slcP, revP, recvOk, Meth.ty, methPre, methP, getP, isNon, isKey, isKey1, seqP, writeBack, augP]
          refine ⟨by omega, fin _ _ _ _ _ _ _ _ _ _ _ _ _ _ _ _ _ _ _ hp3 (hE.put (by omega) (by omega))⟩
        · simp [getV, setV, setVs, dictP, itemP_dctE, cutP_take, cutP_drop, cutP_mid, primP, cmpP, truth, litP, binP, eqP, readPath, writePath, getPath, putPath, setP_dct, Pr.ks, Kc.v, OI.isLst, OI.isCnt, mutP_append, mutP_extend, mutP_pop, mutP_reverse, iterP, itemsOf, isiP, OI.isTy, slcP, revP, recvOk, Meth.ty, methPre, methP, getP, isNon, isKey, isKey1, seqP, writeBack, augP, hr]
          exact fin _ _ _ _ _ _ _ _ _ _ _ _ _ _ _ _ _ _ _ hp1 (hE.mono (by omega))
  · rintro env ⟨p, labels, ek, ev, x0, x4, x7, x8, x9, x10, x11, x12, x13, x14, x15, x16, x17, x18, x19, x20, hp, hl, hl1, hE, rfl⟩
    simp
    exact part4 ht h8 hw (hE.mono (by omega)) hl (by omega) ⟨p, _, _, _, _, _, _, _, _, _, _, _, _, _, _, _, _, hp, rfl⟩
/-- the worths -/
def IL1 (told : List Str) (rest : List PV) (env : OI.Env) : Prop := ∃ (p : PV) (wk wv : List PV) (x0 x4 : Option PV), Pot p ∧ WD wk wv (5 - rest.length) ∧ rest.length ≤ 5 ∧ (∀ v ∈ rest, ∃ n : Str, v = .str n) ∧
  env = [x0, some p, some (.lst (told.map .str)), some (.dct false wk wv), x4, none, none, none, none, none, none, none, none, none, none, none, none, none, none, none, none]
theorem sp_law {k : Nat} {ns : List Int} : wp (callN TT (k + 7) 15 [.lst (ns.map .int)]) Fin1 := by
  rw [wp_fn (d := f_law) rfl rfl]
  simp [f_law_start, b_law]
  refine wpE_call ?_
  simp [getV, setV, setVs, dictP, itemP_dctE, cutP_take, cutP_drop, cutP_mid, primP, cmpP, truth, litP, binP, eqP, readPath, writePath, getPath, putPath, setP_dct, Pr.ks, Kc.v, OI.isLst, OI.isCnt, mutP_append, mutP_extend, mutP_pop, mutP_reverse, iterP, itemsOf, isiP, OI.isTy, slcP, revP, recvOk, Meth.ty, methPre, methP, getP, isNon, isKey, isKey1, seqP, writeBack, augP]
  refine kCall_ctx (d := f__law_pot) rfl rfl (sp_pot fun g c hg hl hc => ?_)
  have hp : Pot (pot g c 0) := ⟨g, c, 0, rfl, hg, by omega, hc, by omega⟩
  generalize pot g c 0 = p at hp
  simp [getV, setV, setVs, dictP, itemP_dctE, cutP_take, cutP_drop, cutP_mid, primP, cmpP, truth, litP, binP, eqP, readPath, writePath, getPath, putPath, setP_dct, Pr.ks, Kc.v, OI.isLst, OI.isCnt, mutP_append, mutP_extend, mutP_pop, mutP_reverse, iterP, itemsOf, isiP, OI.isTy, slcP, revP, recvOk, Meth.ty, methPre, methP, getP, isNon, isKey, isKey1, seqP, writeBack, augP]
  refine wpE_call ?_
  simp [getV, setV, setVs, dictP, itemP_dctE, cutP_take, cutP_drop, cutP_mid, primP, cmpP, truth, litP, binP, eqP, readPath, writePath, getPath, putPath, setP_dct, Pr.ks, Kc.v, OI.isLst, OI.isCnt, mutP_append, mutP_extend, mutP_pop, mutP_reverse, iterP, itemsOf, isiP, OI.isTy, slcP, revP, recvOk, Meth.ty, methPre, methP, getP, isNon, isKey, isKey1, seqP, writeBack, augP]
  refine kCall_ctx (d := f__law_names) rfl rfl (sp_names hp fun told p ht h8 hp => ?_)
  simp [getV, setV, setVs, dictP, itemP_dctE, cutP_take, cutP_drop, cutP_mid, primP, cmpP, truth, litP, binP, eqP, readPath, writePath, getPath, putPath, setP_dct, Pr.ks, Kc.v, OI.isLst, OI.isCnt, mutP_append, mutP_extend, mutP_pop, mutP_reverse, iterP, itemsOf, isiP, OI.isTy, slcP, revP, recvOk, Meth.ty, methPre, methP, getP, isNon, isKey, isKey1, seqP, writeBack, augP]
  refine wp_for (IL1 told) ⟨p, [], [], _, _, hp, ⟨by simp, by simp⟩, by simp; omega, ?_, rfl⟩ ?_ ?_
  · intro v hv
    obtain ⟨n, _, rfl⟩ := List.mem_map.mp (List.mem_of_mem_take hv)
    exact ⟨n, rfl⟩
  · rintro v rest env ⟨p, wk, wv, x0, x4, hp, hw, hr, hk, rfl⟩
    obtain ⟨n, rfl⟩ := hk v (by simp)
    have hk' : ∀ v ∈ rest, ∃ n : Str, v = .str n := fun v h => hk v (by simp [h])
    simp at hr
    have hwl := hw.len
    simp at hwl
    simp [b_law_10]
    simp [getV, setV, setVs, dictP, itemP_dctE, cutP_take, cutP_drop, cutP_mid, primP, cmpP, truth, litP, binP, eqP, readPath, writePath, getPath, putPath, setP_dct, Pr.ks, Kc.v, OI.isLst, OI.isCnt, mutP_append, mutP_extend, mutP_pop, mutP_reverse, iterP, itemsOf, isiP, OI.isTy, slcP, revP, recvOk, Meth.ty, methPre, methP, getP, isNon, isKey, isKey1, seqP, writeBack, augP]
    refine wpE_call ?_
    simp [getV, setV, setVs, dictP, itemP_dctE, cutP_take, cutP_drop, cutP_mid, primP, cmpP, truth, litP, binP, eqP, readPath, writePath, getPath, putPath, setP_dct, Pr.ks, Kc.v, OI.isLst, OI.isCnt, mutP_append, mutP_extend, mutP_pop, mutP_reverse, iterP, itemsOf, isiP, OI.isTy, slcP, revP, recvOk, Meth.ty, methPre, methP, getP, isNon, isKey, isKey1, seqP, writeBack, augP]
    refine kCall_ctx (d := f__law_ladle) rfl rfl (sp_ladle' hp (by omega) (by omega) ?_)
    intro a p1 a1 a2 hp
    simp [getV, setV, setVs, dictP, itemP_dctE, cutP_take, cutP_drop, cutP_mid, primP, cmpP, truth, litP, binP, eqP, readPath, writePath, getPath, putPath, setP_dct, Pr.ks, Kc.v, OI.isLst, OI.isCnt, mutP_append, mutP_extend, mutP_pop, mutP_reverse, iterP, itemsOf, isiP, OI.isTy, slcP, revP, recvOk, Meth.ty, methPre, methP, getP, isNon, isKey, isKey1, seqP, writeBack, augP]
    refine wpE_call ?_
    simp [getV, setV, setVs, dictP, itemP_dctE, cutP_take, cutP_drop, cutP_mid, primP, cmpP, truth, litP, binP, eqP, readPath, writePath, getPath, putPath, setP_dct, Pr.ks, Kc.v, OI.isLst, OI.isCnt, mutP_append, mutP_extend, mutP_pop, mutP_reverse, iterP, itemsOf, isiP, OI.isTy, slcP, revP, recvOk, Meth.ty, methPre, methP, getP, isNon, isKey, isKey1, seqP, writeBack, augP]
    refine kCall_ctx (d := f__law_ladle) rfl rfl (sp_ladle' hp (by omega) (by omega) ?_)
    intro b p2 b1 b2 hp
    simp [getV, setV, setVs, dictP, itemP_dctE, cutP_take, cutP_drop, cutP_mid, primP, cmpP, truth, litP, binP, eqP, readPath, writePath, getPath, putPath, setP_dct, Pr.ks, Kc.v, OI.isLst, OI.isCnt, mutP_append, mutP_extend, mutP_pop, mutP_reverse, iterP, itemsOf, isiP, OI.isTy, slcP, revP, recvOk, Meth.ty, methPre, methP, getP, isNon, isKey, isKey1, seqP, writeBack, augP]
    refine wpE_call ?_
    simp [getV, setV, setVs, dictP, itemP_dctE, cutP_take, cutP_drop, cutP_mid, primP, cmpP, truth, litP, binP, eqP, readPath, writePath, getPath, putPath, setP_dct, Pr.ks, Kc.v, OI.isLst, OI.isCnt, mutP_append, mutP_extend, mutP_pop, mutP_reverse, iterP, itemsOf, isiP, OI.isTy, slcP, revP, recvOk, Meth.ty, methPre, methP, getP, isNon, isKey, isKey1, seqP, writeBack, augP]
    refine kCall_ctx (d := f__law_ladle) rfl rfl (sp_ladle' hp (by omega) (by omega) ?_)
    intro c p3 c1 c2 hp
    simp [getV, setV, setVs, dictP, itemP_dctE, cutP_take, cutP_drop, cutP_mid, primP, cmpP, truth, litP, binP, eqP, readPath, writePath, getPath, putPath, setP_dct, Pr.ks, Kc.v, OI.isLst, OI.isCnt, mutP_append, mutP_extend, mutP_pop, mutP_reverse, iterP, itemsOf, isiP, OI.isTy, slcP, revP, recvOk, Meth.ty, methPre, methP, getP, isNon, isKey, isKey1, seqP, writeBack, augP]
    refine wpE_call ?_
    simp [getV, setV, setVs, dictP, itemP_dctE, cutP_take, cutP_drop, cutP_mid, primP, cmpP, truth, litP, binP, eqP, readPath, writePath, getPath, putPath, setP_dct, Pr.ks, Kc.v, OI.isLst, OI.isCnt, mutP_append, mutP_extend, mutP_pop, mutP_reverse, iterP, itemsOf, isiP, OI.isTy, slcP, revP, recvOk, Meth.ty, methPre, methP, getP, isNon, isKey, isKey1, seqP, writeBack, augP]
    refine kCall_ctx (d := f__law_ladle) rfl rfl (sp_ladle' hp (by omega) (by omega) ?_)
    intro d p4 d1 d2 hp
    simp [getV, setV, setVs, dictP, itemP_dctE, cutP_take, cutP_drop, cutP_mid, primP, cmpP, truth, litP, binP, eqP, readPath, writePath, getPath, putPath, setP_dct, Pr.ks, Kc.v, OI.isLst, OI.isCnt, mutP_append, mutP_extend, mutP_pop, mutP_reverse, iterP, itemsOf, isiP, OI.isTy, slcP, revP, recvOk, Meth.ty, methPre, methP, getP, isNon, isKey, isKey1, seqP, writeBack, augP]
    refine wpE_call ?_
    simp [getV, setV, setVs, dictP, itemP_dctE, cutP_take, cutP_drop, cutP_mid, primP, cmpP, truth, litP, binP, eqP, readPath, writePath, getPath, putPath, setP_dct, Pr.ks, Kc.v, OI.isLst, OI.isCnt, mutP_append, mutP_extend, mutP_pop, mutP_reverse, iterP, itemsOf, isiP, OI.isTy, slcP, revP, recvOk, Meth.ty, methPre, methP, getP, isNon, isKey, isKey1, seqP, writeBack, augP]
    refine kCall_ctx (d := f__law_ladle) rfl rfl (sp_ladle' hp (by omega) (by omega) ?_)
    intro r p5 r1 r2 hp
    simp [getV, setV, setVs, dictP, itemP_dctE, cutP_take, cutP_drop, cutP_mid, primP, cmpP, truth, litP, binP, eqP, readPath, writePath, getPath, putPath, setP_dct, Pr.ks, Kc.v, OI.isLst, OI.isCnt, mutP_append, mutP_extend, mutP_pop, mutP_reverse, iterP, itemsOf, isiP, OI.isTy, slcP, revP, recvOk, Meth.ty, methPre, methP, getP, isNon, isKey, isKey1, seqP, writeBack, augP]
    refine wp_item_tup r1 (by simpa using r2) fun j x hj _ => ?_
    have hx : ∃ i : Int, x = .int i ∧ i.natAbs < 10 ^ 12 := by
      have := List.mem_of_getElem? hj
      simp at this
      rcases this with h | h | h | h | h
      · exact ⟨_, h, by omega⟩
      · exact ⟨_, h, by omega⟩
      · exact ⟨_, h, by omega⟩
      · exact ⟨_, h, by omega⟩
      · exact ⟨_, h, by omega⟩
    obtain ⟨i, hx, hi⟩ := hx
    clear hj
    subst hx
    simp [getV, setV, setVs, dictP, itemP_dctE, cutP_take, cutP_drop, cutP_mid, primP, cmpP, truth, litP, binP, eqP, readPath, writePath, getPath, putPath, setP_dct, Pr.ks, Kc.v, OI.isLst, OI.isCnt, mutP_append, mutP_extend, mutP_pop, mutP_reverse, iterP, itemsOf, isiP, OI.isTy, slcP, revP, recvOk, Meth.ty, methPre, methP, getP, isNon, isKey, isKey1, seqP, writeBack, augP]
    exact ⟨by omega, p5, _, _, _, _, hp, by
      have := hw.put (k := .str n) hi
      simp at this
      exact ⟨Nat.le_trans this.len (by omega), this.vals⟩, by omega, hk', rfl⟩
  · rintro env ⟨p, wk, wv, x0, x4, hp, hw, hr, hk, rfl⟩
    simp
    exact part9 ht h8 hw hp
end K07
set_option maxRecDepth 100000
set_option maxHeartbeats 0
namespace K07
open PySem PySem.Spec PyProof.Rows L2 OI
def dfs (body : List Stmt) : List He.DefD := body.filterMap fun s => match s with
  | .FunctionDef x a b _ _ _ sc _ _ _ => some { at_ := (x, none), name := x, qual := x, params := a, body := b, scope := sc }
  | _ => none
abbrev PP : Program := PySem.Challenge.pw_onerail_k07_worths_labels
def fn : List He.DefD := dfs PP.main.body
theorem pairs : pairB TT TT fn = true := by kernel_rfl
end K07
set_option maxRecDepth 100000
set_option maxHeartbeats 0
namespace K07
open PySem PySem.Spec PyProof.Rows L2 OI
abbrev R : PySem.W.OpenRow := PySem.W.OpenLaw.row PySem.Challenge.rw_onerail_k07_worths_labels
abbrev hk : PySem.W.Hook := hookL 4 (faOf TT) fn (csOf TT)
def ob (s : PySem.W.SharedT) : AlL := obsLG 4 (faOf TT) fn (csOf TT) (HandSHeadRun.getT s)
theorem ob_eq (s : PySem.W.SharedT) : ob s = hk.obs s.abs := obsLG_eq (HandSHeadRun.getT_eq s)
def loose : List PySem.Str := ["LABEL_WORDS", "laid_label", "tick_worth", "atom_worth", "joined_worth", "all_worths", "worth_of", "_law_pot", "_law_ladle", "_law_same", "_law_kept", "_law_names", "_law_nodes", "_law_laid_label", "_law_worth", "_law_any"]
theorem run (w : World) : HandSHeadRun.RunEq R (PySem.W.view R.prog [18]) hk ob 2000 loose w := by
  intro os
  kernel_rfl
theorem pure_law : ∀ ns : List Int, ns.length ≤ 63 → (∀ k ∈ ns, Builtin.Int.intBits k ≤ 1048576) → ∃ o, callN TT 20 15 [.lst (ns.map PV.int)] = .ok (.bl true, o) := by
  intro ns _ _
  obtain ⟨⟨v, o⟩, h1, h2⟩ := wp_iff.mp (sp_law (k := 13) (ns := ns))
  exact ⟨o, by rw [h1]; exact congrArg (fun x => Res.ok (x, o)) h2⟩
end K07
open PySem PySem.W PySem.Calls PyProof.Rows
theorem PySem.Challenge.cw_onerail_k07_worths_labels_holds : PySem.Challenge.rw_onerail_k07_worths_labels.Holds := by
  w_on; o_law
  refine HandSHeadRun.head_any (r := OpenLaw.row PySem.Challenge.rw_onerail_k07_worths_labels) (q := view (OpenLaw.row PySem.Challenge.rw_onerail_k07_worths_labels).prog [18]) (H := K07.hk) (ob := K07.ob) (M := 2000) (loose := K07.loose) (d := HandSHeadRun.topDef (OpenLaw.row PySem.Challenge.rw_onerail_k07_worths_labels).prog 18) (kwd := []) K07.ob_eq
    (by kernel_rfl) (fun s => by kernel_rfl) K07.run (by kernel_rfl) (by kernel_rfl) (by kernel_rfl) (by rfl) (by first | assumption | decide +kernel) (by decide +kernel) ⟨rfl, rfl, rfl, rfl, rfl, by decide +kernel⟩ ?hw ?hc
  case hw => w_witness2
  case hc =>
    exact OI.law_walk (l := PySem.Challenge.rw_onerail_k07_worths_labels) (n := 63) (k := 19) (i := 15) (T := K07.TT) (fn := K07.fn) (g := K07.f_law) rfl (by decide) (by kernel_rfl) ⟨rfl, by decide, by decide⟩ K07.pairs rfl (by kernel_rfl) rfl rfl rfl K07.pure_law
