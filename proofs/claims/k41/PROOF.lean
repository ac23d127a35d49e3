import PyProof.Rows.All
import Wide.All
import OpenK.AllK
import Wide.FinOn
import HandS.Base
import HandS.Call
import HandS.List
import HandS.Exc
import HandS.ExcOwn
import HandS.Words
import HandS.Lambda
import HandS.WordsExc
import HandS.TupAny
import HandS.Deep
import HandS.IsInst
import HandS.Wide
import KE.KDictKeyed
import KE.KDictPairs
import KE.KDictWalk
import KE.KDictCopyH
import KE.DataMinMax
import PyProof.Rows.SeqRoads
import HandS.Dict
import HandS.Iter
import KE.KEqDict
import PyProof.DictFindH
import HandS.ListEq
import KE.KTupSum
import KE.SortData
import KE.KDictDisplayH
import PyProof.DictTable
import PyProof.EqKinds
import PyProof.NeKinds
import HandS.Style
import HandS.More
import HandS.TupMul
import HandS.Comp
import HandS.Zip
import HandS.Rev
import KE.GoesEnum
import HandS.Set
import HandS.SetFor
import HandS.TryOnly
import HandS.Flow
import HandS.ExcIs
import HandS.TryMany
import HandS.Defaults
import HandS.HeadEnd
import HandS.HeadHook1
import KE.KStateDown
import HandS.Ends
import HandS.Head0
import HandS.Head1
import HandS.Head2
import HandS.HeadHook2
import HandS.HeadHook3
import HandS.HeadHook4
import HandS.EndTab
import KE.KNestM
import Lean
import PySem.Challenge.RW_hingedraw_k41_machines_known
set_option Elab.async false
set_option linter.all false
set_option maxRecDepth 100000
/-! The small language: its terms, its values, its runs. -/
namespace Hg
open PySem

/-! ### values, slots, ends -/
abbrev D := PyData
/-- what an owned slot holds -/
inductive Ob where
  | lst (xs : List D)
  | dic (kvs : List (D × D))
def Ob.val : Ob → D
  | .lst xs => .list xs
  | .dic kvs => .dict kvs
inductive Sl where
  | un
  | sh (d : D)
  | ow (o : Ob)
abbrev S := List Sl
structure Er where
  cls : Nat
  arg : Option D
inductive R (α : Type) where
  | bad
  | ok (a : α) (s : S)
  | err (e : Er) (s : S)
abbrev M (α : Type) := S → R α
def M.pure {α : Type} (a : α) : M α := fun s => .ok a s
def R.bind {α β : Type} (r : R α) (f : α → S → R β) : R β := match r with
  | .bad => .bad
  | .ok a s => f a s
  | .err e s => .err e s
def M.bind {α β : Type} (m : M α) (f : α → M β) : M β := fun s => (m s).bind fun a s' => f a s'
instance : Monad M where
  pure := M.pure
  bind := M.bind
def bad {α : Type} : M α := fun _ => .bad
def lift {α : Type} (o : Option α) : M α := match o with
  | some a => M.pure a
  | none => bad
/-- a slot's content as data -/
def Sl.data : Sl → Option D
  | .un => none
  | .sh d => some d
  | .ow o => some o.val
/-- the data of a result -/
def frz (m : M Sl) : M D := m.bind fun r => lift r.data
/-- an operand: data, or the slot where the content stands -/
inductive Op where
  | d (d : D)
  | v (i : Nat)

/-! ### terms -/
/-- built-in functions by name -/
inductive Bf where
  | len | abs | max | min | int | tuple | list | all | str | sum | dict
  deriving DecidableEq
/-- built-in kinds -/
inductive Ty where
  | int | bool | tuple | list | str | dict
  deriving DecidableEq
mutual
inductive Ex where
  | var (i : Nat)
  | int (i : Int)
  | str (s : Str)
  | bl (b : Bool)
  | non
  | glo (x : Str)
  | bin (op : Operator) (a b : Ex)
  | neg (a : Ex)
  | cmp (op : CmpOp) (a b : Ex)
  | chain (o p : CmpOp) (a b c : Ex)
  | and (es : Exs)
  | or (es : Exs)
  | orv (a b : Ex)
  | not (a : Ex)
  | ife (c a b : Ex)
  | ix (a i : Ex)
  | dix (a i : Ex)
  | dget (a i d : Ex)
  /-- how many unlike whole numbers a tuple holds -/
  | lset (a : Ex)
  /-- a look-up in a table of the module -/
  | cget (g : Str) (tab : List (Str × Int)) (e : Ex)
  | sl (a : Ex) (lo hi : Ex)
  | rev (a : Ex)
  | tup (es : Exs)
  | lst (es : Exs)
  | dic (ks vs : Exs)
  /-- a dict with tuples for keys -/
  | dtk (es : Exs)
  | call (f : Nat) (es : Exs)
  | bf (b : Bf) (es : Exs)
  | isi (a : Ex) (ts : List Ty)
  | lc (src : Src) (tg : Tg) (c : Ex) (e : Ex) (own : List Nat)
  | lcl (i : Nat) (tg : Tg) (c : Ex) (e : Ex) (own : List Nat)
  | pop (i : Nat) (e : Ex)
  | app (i : Nat) (e : Ex)
  | ext (i : Nat) (e : Ex)
  | ins (i : Nat) (k e : Ex)
  | rfd (r g : Nat) (es : Exs) (ks : List Nat)
inductive Exs where
  | nil
  | cons (e : Ex) (es : Exs)
/-- what is walked -/
inductive Src where
  | seq (e : Ex)
  | rng (es : Exs)
  | zip (a b : Ex)
  | enu (a : Ex)
  | rvd (a : Ex)
  | vals (a : Ex)
/-- targets -/
inductive Tg where
  | name (i : Nat)
  | tup (ts : Tgs)
inductive Tgs where
  | nil
  | cons (t : Tg) (ts : Tgs)
end
/-- what an except suite stores or gives -/
inductive Cst where
  | d (d : D)
  | emp
def Cst.sl : Cst → Sl
  | .d v => .sh v
  | .emp => .ow (.lst [])
inductive Hdl where
  | set (i : Nat) (c : Cst)
  | ret (c : Cst)
mutual
inductive St where
  | asg (t : Tg) (e : Ex)
  | par (i j : Nat) (a b : Ex)
  | par3 (i j l : Nat) (a b c : Ex)
  | six (i : Nat) (k e : Ex)
  | exp (e : Ex)
  | ret (e : Ex)
  | ite (c : Ex) (a b : Sts)
  | whl (c : Ex) (b : Sts)
  | fo (src : Src) (tg : Tg) (b : Sts)
  | rai (c : Nat)
  | tr (b : Sts) (m : Nat) (hs : List (Nat × Hdl))
inductive Sts where
  | nil
  | cons (s : St) (ss : Sts)
end

/-! ### operations on data -/
def okMul (i j : Int) : Bool := decide (i.natAbs.log2 + j.natAbs.log2 < 1000000)
def okDiv (j : Int) : Bool := decide (j ≠ 0) && decide (j.natAbs.log2 < 9000)
def okPow (i j : Int) : Bool := decide (0 ≤ j) && decide (j ≤ 1000000) && decide (i.natAbs < 2 ^ 64)
def binD : Operator → D → D → Option Sl
  | .Add, .int i, .int j => some (.sh (.int (i + j)))
  | .Sub, .int i, .int j => some (.sh (.int (i - j)))
  | .Mult, .int i, .int j => if okMul i j then some (.sh (.int (i * j))) else none
  | .FloorDiv, .int i, .int j => if okDiv j then some (.sh (.int (i.fdiv j))) else none
  | .Mod, .int i, .int j => if j = 0 then none else some (.sh (.int (i.fmod j)))
  | .Pow, .int i, .int j => if okPow i j then some (.sh (.int (i ^ j.toNat))) else none
  | .Add, .list xs, .list ys => if xs.length + ys.length ≤ sizeLine then some (.ow (.lst (xs ++ ys))) else none
  | .Add, .tuple xs, .tuple ys => if xs.length + ys.length ≤ sizeLine then some (.sh (.tuple (xs ++ ys))) else none
  | .Mult, .list xs, .int k => if 0 ≤ k ∧ k < 2 ^ 63 ∧ xs.length * k.toNat ≤ sizeLine then some (.ow (.lst (List.replicate k.toNat xs).flatten)) else none
  | .Mult, .tuple xs, .int k => if xs ≠ [] ∧ 2 ≤ k ∧ k ≤ 1000 ∧ xs.length ≤ 1000 then some (.sh (.tuple (List.replicate k.toNat xs).flatten)) else none
  | _, _, _ => none
def intsD : List D → Option (List Int)
  | [] => some []
  | .int i :: r => (intsD r).map (i :: ·)
  | _ :: _ => none
/-! ### dicts whose keys are tuples of whole numbers -/
abbrev Tb2 := List (List Int × D)
def tkD : D → Option (List Int)
  | .tuple ds => intsD ds
  | _ => none
def ktD : List (D × D) → Option Tb2
  | [] => some []
  | (k, v) :: r => match tkD k, ktD r with
    | some ns, some q => some ((ns, v) :: q)
    | _, _ => none
def keyT (k : List Int) : D := .tuple (k.map .int)
def unT (m : Tb2) : List (D × D) := m.map fun p => (keyT p.1, p.2)
def lkT (m : Tb2) (k : List Int) : Option D := (m.find? fun p => decide (p.1 = k)).map (·.2)
def ptT (m : Tb2) (k : List Int) (v : D) : Tb2 := if (lkT m k).isSome then m.map fun p => if p.1 = k then (p.1, v) else p else m ++ [(k, v)]
def mkT (m : Tb2) (ps : Tb2) : Tb2 := ps.foldl (fun a p => ptT a p.1 p.2) m
/-- pairs of a key and a value -/
def prT : List D → Option Tb2
  | [] => some []
  | .tuple [k, v] :: r => match tkD k, prT r with
    | some ns, some q => some ((ns, v) :: q)
    | _, _ => none
  | _ :: _ => none
/-- a key's number -/
def tkh (ks : List Int) : Int := reduceHash (Builtin.Tuple.tupleHashOf (ks.map hashInt))
def unlike : List Int → Bool
  | [] => true
  | a :: r => !r.contains a && unlike r
def ltI : List Int → List Int → Bool
  | [], [] => false
  | [], _ :: _ => true
  | _ :: _, [] => false
  | a :: r, b :: q => if a = b then ltI r q else decide (a < b)
/-- the greatest key -/
def mxT : Tb2 → Option (List Int)
  | [] => none
  | p :: r => some (r.foldl (fun k q => if ltI k q.1 then q.1 else k) p.1)
def mxI : List Int → Option Int
  | [] => none
  | a :: r => some (r.foldl (fun k q => if k < q then q else k) a)
def eqQ (q : Tb2) : Tb2 → Option Bool
  | [] => some true
  | p :: r => match lkT q p.1 with
    | none => some false
    | some w => match tkD p.2, tkD w with
      | some x, some y => if x = y then eqQ q r else some false
      | _, _ => none
def eqT (a b : List (D × D)) : Option Bool := match ktD a, ktD b with
  | some m, some q => if m.length = q.length then eqQ q m else some false
  | _, _ => none
def eqD (x y : D) : Option Bool := if SeqAt.shaped x && SeqAt.shaped y then some (PyData.eqv x y) else none
/-- lists of dicts that are surely equal -/
def sureL : List D → List D → Bool
  | [], [] => true
  | .dict a :: r, .dict b :: q => (match eqT a b with | some true => true | _ => false) && sureL r q
  | _, _ => false
def neL (xs ys : List D) : Option Bool := match eqD (.list xs) (.list ys) with
  | some b => some (!b)
  | none => if sureL xs ys then some false else none
def isNo : D → Bool
  | .none => true
  | _ => false
def inT (x : D) (kvs : List (D × D)) : Option Bool := match tkD x, ktD kvs with
  | some k, some m => some (lkT m k).isSome
  | _, _ => none
def cmpD : CmpOp → D → D → Option Bool
  | .Eq, .dict a, .dict b => eqT a b
  | .NotEq, .dict a, .dict b => (eqT a b).map (!·)
  | .NotEq, .list xs, .list ys => neL xs ys
  | .Eq, x, y => eqD x y
  | .NotEq, x, y => (eqD x y).map (!·)
  | .Lt, .int i, .int j => some (decide (i < j))
  | .LtE, .int i, .int j => some (decide (i ≤ j))
  | .Gt, .int i, .int j => some (decide (j < i))
  | .GtE, .int i, .int j => some (decide (j ≤ i))
  | .Is, x, .none => some (isNo x)
  | .IsNot, x, .none => some (!isNo x)
  | .Is, .bool a, .bool b => some (decide (a = b))
  | .IsNot, .bool a, .bool b => some (!decide (a = b))
  | .In, x, .list ys => if SeqAt.shaped x && SeqAt.shaped (.list ys) then some (ys.any fun z => PyData.eqv z x) else none
  | .NotIn, x, .list ys => if SeqAt.shaped x && SeqAt.shaped (.list ys) then some (!ys.any fun z => PyData.eqv z x) else none
  | .In, x, .tuple ys => if SeqAt.shaped x && SeqAt.shaped (.tuple ys) then some (ys.any fun z => PyData.eqv z x) else none
  | .NotIn, x, .tuple ys => if SeqAt.shaped x && SeqAt.shaped (.tuple ys) then some (!ys.any fun z => PyData.eqv z x) else none
  | .In, x, .dict kvs => inT x kvs
  | .NotIn, x, .dict kvs => (inT x kvs).map (!·)
  | _, _, _ => none
def ixT (kvs : List (D × D)) (x : D) : Option D := match tkD x, ktD kvs with
  | some k, some m => lkT m k
  | _, _ => none
def ixD : D → D → Option D
  | .dict kvs, x => ixT kvs x
  | .list xs, .int i => L2.atI xs i
  | .tuple xs, .int i => L2.atI xs i
  | _, _ => none
/-- a slice -/
def cutD {α : Type} (xs : List α) (lo hi : Option Int) : List α := (xs.drop (HT.sIx xs.length 0 lo)).take (HT.sIx xs.length xs.length hi - HT.sIx xs.length 0 lo)
def slD : D → Option Int → Option Int → Option Sl
  | .list xs, lo, hi => some (.ow (.lst (cutD xs lo hi)))
  | .tuple xs, lo, hi => some (.sh (.tuple (cutD xs lo hi)))
  | _, _, _ => none
def allB : List D → Option Bool
  | [] => some true
  | .bool b :: r => (allB r).map (b && ·)
  | _ :: _ => none
def sN (s : String) : Str := Str.ofString s
def bfD : Bf → List D → Option Sl
  | .len, [.list xs] => some (.sh (.int xs.length))
  | .len, [.tuple xs] => some (.sh (.int xs.length))
  | .abs, [.int i] => some (.sh (.int (if i < 0 then -i else i)))
  | .max, [.int i, .int j] => some (.sh (.int (if j > i then j else i)))
  | .min, [.int i, .int j] => some (.sh (.int (if j < i then j else i)))
  | .int, [.int i] => some (.sh (.int i))
  | .int, [.bool b] => some (.sh (.int (if b then 1 else 0)))
  | .tuple, [.list xs] => some (.sh (.tuple xs))
  | .tuple, [.tuple xs] => some (.sh (.tuple xs))
  | .list, [.list xs] => some (.ow (.lst xs))
  | .list, [.tuple xs] => some (.ow (.lst xs))
  | .all, [.list xs] => (allB xs).map fun b => .sh (.bool b)
  | .str, [.int i] => if i.natAbs.log2 < 1920 then some (.sh (.str (toString i))) else none
  | .len, [.dict kvs] => (ktD kvs).map fun m => .sh (.int m.length)
  | .max, [.dict kvs] => (ktD kvs).bind fun m => (mxT m).map fun k => .sh (keyT k)
  | .max, [.list xs] => (intsD xs).bind fun ns => (mxI ns).map fun i => .sh (.int i)
  | .sum, [.tuple xs] => (intsD xs).map fun ns => .sh (.int ns.sum)
  | .dict, [.dict kvs] => (ktD kvs).bind fun m => if unlike (m.map fun p => tkh p.1) then some (.ow (.dic (unT m))) else none
  | .dict, [.list xs] => (prT xs).map fun m => .ow (.dic (unT (mkT [] m)))
  | _, _ => none

/-! ### kinds -/
inductive Kn where
  | none | bool | int | str | list | tuple | dict
  deriving DecidableEq
def knOf : D → Kn
  | .none => .none
  | .bool _ => .bool
  | .int _ => .int
  | .str _ => .str
  | .list _ => .list
  | .tuple _ => .tuple
  | .dict _ => .dict
def isKn : Kn → Ty → Bool
  | .int, .int => true
  | .bool, .bool => true
  | .bool, .int => true
  | .tuple, .tuple => true
  | .list, .list => true
  | .str, .str => true
  | .dict, .dict => true
  | _, _ => false
def isTy (d : D) (t : Ty) : Bool := isKn (knOf d) t

/-! ### calls -/
/-- a call's end: its value, what its in-out parameters hold then -/
inductive CR where
  | bad
  | ok (r : Sl) (outs : List Ob)
  | err (e : Er) (outs : List Ob)
/-- an argument: data, or an in-out slot -/
inductive Ag where
  | d (d : D)
  | io (i : Nat)
structure Cal where
  /-- which parameters are in-out -/
  io : Nat → List Bool
  run : Nat → List Sl → CR
  con : Str → Option D
  /-- runs within a lambda -/
  lw : Option (Nat → List Sl → CR)
def Cal.wr (C : Cal) (run : Nat → List Sl → CR) : Cal := { C with run := run }

def resV (i : Nat) : M D := fun s => match s[i]? with
  | some (.ow o) => .ok o.val s
  | some (.sh d) => .ok d s
  | _ => .bad
def resO : Op → M D
  | .d d => M.pure d
  | .v i => resV i
def opV (i : Nat) : M Op := fun s => match s[i]? with
  | some (.ow _) => .ok (.v i) s
  | some (.sh d) => .ok (.d d) s
  | _ => .bad
def ioV (i : Nat) : M Ag := fun s => match s[i]? with
  | some (.ow _) => .ok (.io i) s
  | _ => .bad
/-- a name read: what it owns is let go -/
def varM (i : Nat) : M Sl := fun s => match s[i]? with
  | some (.sh d) => .ok (.sh d) s
  | some (.ow o) => .ok (.sh o.val) (s.set i (.sh o.val))
  | _ => .bad
def resOs : List Op → M (List D)
  | [] => M.pure []
  | x :: xs => (resO x).bind fun d => (resOs xs).bind fun ds => M.pure (d :: ds)
/-- an expression as an operand -/
def opnd (e : Ex) (m : M Sl) : M Op := match e with
  | .var i => opV i
  | _ => (frz m).bind fun d => M.pure (.d d)
def argM (io : Bool) (e : Ex) (m : M Sl) : M Ag := if io then (match e with
  | .var i => ioV i
  | _ => bad) else (frz m).bind fun d => M.pure (.d d)
/-- the slots that a callee gets -/
def ioSl (s : S) (i : Nat) : Option Sl := match s[i]? with
  | some (.ow o) => some (.ow o)
  | _ => none
def argSl (s : S) : Ag → Option Sl
  | .d d => some (.sh d)
  | .io i => ioSl s i
def ioIx : List Ag → List Nat
  | [] => []
  | .io i :: r => i :: ioIx r
  | .d _ :: r => ioIx r
def putOuts (s : S) : List Nat → List Ob → S
  | i :: is, o :: os => putOuts (s.set i (.ow o)) is os
  | _, _ => s
def argSls (s : S) : List Ag → Option (List Sl)
  | [] => some []
  | a :: r => match argSl s a, argSls s r with
    | some x, some xs => some (x :: xs)
    | _, _ => none
def callE (r : CR) (ix : List Nat) (s : S) : R Sl := match r with
  | .bad => .bad
  | .ok r outs => if outs.length = ix.length then .ok r (putOuts s ix outs) else .bad
  | .err e outs => if outs.length = ix.length then .err e (putOuts s ix outs) else .bad
def callR (run : Nat → List Sl → CR) (f : Nat) (as : List Ag) : M Sl := fun s =>
  if (ioIx as).Nodup then (match argSls s as with
    | none => .bad
    | some vs => callE (run f vs) (ioIx as) s) else .bad
def callM (C : Cal) (f : Nat) (as : List Ag) : M Sl := callR C.run f as
/-- nothing can be reached by it -/
def scal : Sl → Bool
  | .sh .none => true
  | .sh (.bool _) => true
  | .sh (.int _) => true
  | .sh (.str _) => true
  | _ => false
def anyV : List Op → Bool
  | [] => false
  | .v _ :: _ => true
  | .d _ :: r => anyV r
def hasT : List Bool → Bool
  | [] => false
  | true :: _ => true
  | false :: r => hasT r
def letG (s : S) (i : Nat) : S := match s[i]? with
  | some (.ow o) => s.set i (.sh o.val)
  | _ => s
/-- what operands own is let go -/
def letGo (s : S) : List Op → S
  | [] => s
  | .v i :: r => letGo (letG s i) r
  | .d _ :: r => letGo s r
/-- a call that changes no argument: owned things are lent where the answer can't bear them -/
def callN (C : Cal) (f : Nat) (xs : List Op) : M Sl := fun s => if xs.length = (C.io f).length then (match resOs xs s with
  | .ok ds _ => if anyV xs then (match C.run f (ds.map Sl.sh) with
    | .ok r [] => if scal r then .ok r s else callM C f (ds.map Ag.d) (letGo s xs)
    | _ => callM C f (ds.map Ag.d) (letGo s xs)) else callM C f (ds.map Ag.d) s
  | _ => .bad) else .bad
/-- a call with one thing just made, that it may change -/
def isTmp : Exs → Bool
  | .cons (.var _) .nil => false
  | .cons _ .nil => true
  | _ => false
def tmpM (C : Cal) (f : Nat) (r : Sl) : M Sl := match r with
  | .ow o => fun s => if (C.io f).length = 1 then (match C.run f [.ow o] with
    | .ok r [_] => .ok r s
    | .err e [_] => .err e s
    | _ => .bad) else .bad
  | _ => bad
/-- the slots behind a call -/
def outS : List Sl → List Ob → List Sl
  | [], _ => []
  | .ow _ :: as, o :: os => .ow o :: outS as os
  | a :: as, os => a :: outS as os
def runR (run : List Sl → CR) (as : List Sl) : R Sl := match run as with
  | .bad => .bad
  | .ok r outs => .ok r (outS as outs)
  | .err e outs => .err e (outS as outs)
/-- a call within a lambda that is asked for its refusal -/
def rfdM (ks : List Nat) (m : M Sl) : M Sl := fun s => match (frz m) s with
  | .bad => .bad
  | .ok _ s' => .ok (.sh .none) s'
  | .err e s' => match ks[e.cls]? with
    | some k => .ok (.ow (.lst [.int (k : Int)])) s'
    | none => .bad
/-- a test -/
def testM (m : M Sl) : M Bool := (frz m).bind fun d => match d with
  | .bool b => M.pure b
  | _ => bad
def bM (b : Bool) : M Sl := M.pure (.sh (.bool b))
def isNon : Ex → Bool
  | .non => true
  | _ => false
/-- a run that must not end in an error -/
def noErr {α : Type} (m : M α) : M α := fun s => match m s with
  | .ok a s' => .ok a s'
  | _ => .bad
/-- whether data counts as true -/
def truD : D → Option Bool
  | .none => some false
  | .bool b => some b
  | .int i => some (i != 0)
  | .list xs => some (!xs.isEmpty)
  | .tuple xs => some (!xs.isEmpty)
  | _ => none
/-- keys that are texts -/
def keysE : Exs → Option (List Str)
  | .nil => some []
  | .cons (.str x) es => (keysE es).map (x :: ·)
  | .cons _ _ => none
def isKey : D → Bool
  | .int _ => true
  | .str _ => true
  | _ => false
def keyEq : D → D → Bool
  | .int i, .int j => decide (i = j)
  | .str x, .str y => decide (x = y)
  | _, _ => false
def lookD : List (D × D) → D → Option D
  | [], _ => none
  | (k, v) :: r, x => if keyEq k x then some v else lookD r x
def dixD : D → D → Option D
  | .dict kvs, k => lookD kvs k
  | _, _ => none
def dctD : D → Option Unit
  | .dict kvs => (ktD kvs).map fun _ => ()
  | _ => none
/-- a look-up with something in its stead -/
def dgetD : D → D → D → Option D
  | .dict kvs, k, x => match tkD k, ktD kvs with
    | some ns, some m => some ((lkT m ns).getD x)
    | _, _ => none
  | _, _, _ => none
def ddup : List Int → List Int
  | [] => []
  | a :: r => if a ∈ r then ddup r else a :: ddup r
def lsetD : D → Option Sl
  | .tuple ds => match intsD ds with
    | some ns => if ns.length ≤ 1000 then some (.sh (.int ((ddup ns).length : Nat))) else none
    | none => none
  | _ => none
def cgetD (tab : List (Str × Int)) : D → Option Sl
  | .str x => some (.sh (match tab.lookup x with
    | some i => .int i
    | none => .none))
  | _ => none
def dicD (l : List Str) (ds : List D) : Option Sl := if l.Nodup ∧ l.length ≤ 15 ∧ l ≠ [] ∧ ds.length = l.length then some (.ow (.dic ((l.zip ds).map fun p => (.str p.1, p.2)))) else if l = [] ∧ ds = [] then some (.ow (.dic [])) else none
/-- keys and values by turns -/
def twoT : List D → Option Tb2
  | [] => some []
  | k :: v :: r => match tkD k, twoT r with
    | some ns, some m => some ((ns, v) :: m)
    | _, _ => none
  | [_] => none
def dtkD (ds : List D) : Option Sl := match twoT ds with
  | some m => if m.length ≤ 15 ∧ m ≠ [] then some (.ow (.dic (unT (mkT [] m)))) else none
  | none => none
/-- a slice's bound -/
def partM (e : Ex) (m : M Sl) : M (Option Int) := if isNon e then M.pure none else (frz m).bind fun d => match d with
  | .int i => M.pure (some i)
  | _ => bad
/-- an item stored in a slot -/
def setS (i : Nat) (r : Sl) : M Unit := fun s => if i < s.length then .ok () (s.set i r) else .bad
mutual
def putT : Tg → D → M Unit
  | .name i, d => setS i (.sh d)
  | .tup ts, d => match d with
    | .tuple ds => putTs ts ds
    | .list ds => putTs ts ds
    | _ => bad
def putTs : Tgs → List D → M Unit
  | .nil, [] => M.pure ()
  | .cons t ts, d :: ds => (putT t d).bind fun _ => putTs ts ds
  | _, _ => bad
end
def wipeS (s : S) : List Nat → S
  | [] => s
  | v :: vs => (wipeS s vs).set v .un
/-- the slots vs as they stood in s0 -/
def backS (s0 s : S) : List Nat → S
  | [] => s
  | v :: vs => (backS s0 s vs).set v (s0.getD v .un)
def notOw : Sl → Bool
  | .ow _ => false
  | _ => true
def wipeM (own : List Nat) : M Unit := fun s => .ok () (wipeS s own)
def optCons : Option D → List D → List D
  | some x, r => x :: r
  | none, r => r
/-- a comprehension's turns -/
def lcGo (own : List Nat) (turn : D → M (Option D)) : List D → M (List D)
  | [] => M.pure []
  | d :: ds => (turn d).bind fun o => (wipeM own).bind fun _ => (lcGo own turn ds).bind fun r => M.pure (optCons o r)
def lcM (own : List Nat) (turn : D → M (Option D)) (src : M (List D)) : M Sl := src.bind fun ds s =>
  if own.all (fun i => notOw (s.getD i .un)) && decide (ds.length < sizeLine) then
    (match lcGo own turn ds (wipeS s own) with
    | .bad => .bad
    | .err _ _ => .bad
    | .ok xs s' => .ok (.ow (.lst xs)) (backS s s' own))
  else .bad
/-- a comprehension over what the def holds, which is lent meanwhile -/
def lcLo (own : List Nat) (turn : D → M (Option D)) (i : Nat) (o : Ob) (ds : List D) : M Sl := fun s => match lcM own turn (M.pure ds) (s.set i .un) with
  | .ok r s' => (match s'[i]? with
    | some .un => .ok r (s'.set i (.ow o))
    | _ => .bad)
  | _ => .bad
def lcL (own : List Nat) (turn : D → M (Option D)) (i : Nat) : M Sl := fun s => match s[i]? with
  | some (.ow (.lst ds)) => lcLo own turn i (.lst ds) ds s
  | some (.ow (.dic kvs)) => (match ktD kvs with
    | some m => lcLo own turn i (.dic kvs) (m.map fun p => keyT p.1) s
    | none => .bad)
  | _ => .bad
def rngD : List D → Option (List D)
  | [.int n] => if -(2 ^ 62) ≤ n ∧ n < 2 ^ 62 then some ((List.range n.toNat).map fun (i : Nat) => PyData.int (i : Int)) else none
  | [.int a, .int b] => if -(2 ^ 62) ≤ a ∧ a < 2 ^ 62 ∧ -(2 ^ 62) ≤ b ∧ b < 2 ^ 62 then some ((List.range (b - a).toNat).map fun (i : Nat) => PyData.int (a + (i : Int))) else none
  | _ => none
def seqD : D → Option (List D)
  | .list xs => some xs
  | .tuple xs => some xs
  | .dict kvs => (ktD kvs).map fun m => m.map fun p => keyT p.1
  | _ => none
def valsD : D → Option (List D)
  | .dict kvs => (ktD kvs).map fun m => m.map (·.2)
  | _ => none
def zipD : D → D → Option (List D)
  | .list xs, .list ys => some ((xs.zip ys).map fun p => .tuple [p.1, p.2])
  | .tuple xs, .tuple ys => some ((xs.zip ys).map fun p => .tuple [p.1, p.2])
  | _, _ => none
def revD : D → Option (List D)
  | .list xs => some xs.reverse
  | .tuple xs => some xs.reverse
  | _ => none
def rvD : D → Option Sl
  | .list xs => some (.ow (.lst xs.reverse))
  | _ => none
def enuD : D → Option (List D)
  | .list xs => some (xs.zipIdx.map fun p => .tuple [.int (p.2 : Int), p.1])
  | .tuple xs => some (xs.zipIdx.map fun p => .tuple [.int (p.2 : Int), p.1])
  | _ => none
def popD (xs : List D) (i : Int) : Option (D × List D) := match seqIndex? i xs.length with
  | some k => match xs[k]? with
    | some y => some (y, xs.eraseIdx k)
    | none => none
  | none => none
/-- the list in an owned slot -/
def ownL (i : Nat) : M (List D) := fun s => match s[i]? with
  | some (.ow (.lst xs)) => .ok xs s
  | _ => .bad
def setL (i : Nat) (xs : List D) : M Unit := fun s => .ok () (s.set i (.ow (.lst xs)))
def nonM (i : Nat) (xs : List D) : M Sl := (setL i xs).bind fun _ => M.pure (.sh .none)
def popM (i : Nat) (d : D) (xs : List D) : M Sl := match d with
  | .int k => if -(2 ^ 63) ≤ k ∧ k < 2 ^ 63 then (lift (popD xs k)).bind fun p => (setL i p.2).bind fun _ => M.pure (.sh p.1) else bad
  | _ => bad
def appM (i : Nat) (d : D) (xs : List D) : M Sl := if xs.length < sizeLine then nonM i (xs ++ [d]) else bad
def extM (i : Nat) (d : D) (xs : List D) : M Sl := match d with
  | .list ys => if xs.length + ys.length ≤ sizeLine then nonM i (xs ++ ys) else bad
  | _ => bad
def insM (i : Nat) (q d : D) (xs : List D) : M Sl := match q with
  | .int k => if 0 ≤ k ∧ k ≤ xs.length ∧ xs.length < sizeLine then nonM i (xs.take k.toNat ++ d :: xs.drop k.toNat) else bad
  | _ => bad
mutual
def evE (C : Cal) : Ex → M Sl
  | .var i => varM i
  | .int i => M.pure (.sh (.int i))
  | .str x => M.pure (.sh (.str x))
  | .bl b => M.pure (.sh (.bool b))
  | .non => M.pure (.sh .none)
  | .glo x => lift ((C.con x).map .sh)
  | .bin op a b => (opnd a (evE C a)).bind fun x => (opnd b (evE C b)).bind fun y => (resO x).bind fun d => (resO y).bind fun e => lift (binD op d e)
  | .neg a => (frz (evE C a)).bind fun d => match d with
    | .int i => M.pure (.sh (.int (-i)))
    | _ => bad
  | .cmp op a b => (opnd a (evE C a)).bind fun x => (opnd b (evE C b)).bind fun y => (resO x).bind fun d => (resO y).bind fun e => lift ((cmpD op d e).map fun k => .sh (.bool k))
  | .chain o p a b c => (frz (evE C a)).bind fun x => (frz (evE C b)).bind fun y => (lift (cmpD o x y)).bind fun k => if k then (frz (evE C c)).bind fun z => lift ((cmpD p y z).map fun k => .sh (.bool k)) else bM false
  | .and es => (evAnd C es).bind bM
  | .or es => (evOr C es).bind bM
  | .orv a b => (frz (evE C a)).bind fun d => (lift (truD d)).bind fun k => if k then M.pure (.sh d) else evE C b
  | .not a => (testM (evE C a)).bind fun k => bM (!k)
  | .ife c a b => (testM (evE C c)).bind fun k => if k then evE C a else evE C b
  | .ix a i => (opnd a (evE C a)).bind fun x => (frz (evE C i)).bind fun e => (resO x).bind fun d => lift ((ixD d e).map .sh)
  | .dix a i => (opnd a (evE C a)).bind fun x => (frz (evE C i)).bind fun e => (resO x).bind fun d => lift ((dixD d e).map .sh)
  | .dget a i f => (opnd a (evE C a)).bind fun x => (resO x).bind fun d0 => (lift (dctD d0)).bind fun _ => (frz (evE C i)).bind fun e => (frz (evE C f)).bind fun g => (resO x).bind fun d => lift ((dgetD d e g).map .sh)
  | .lset a => (frz (evE C a)).bind fun d => lift (lsetD d)
  | .cget _ tab e => (frz (evE C e)).bind fun d => lift (cgetD tab d)
  | .sl a lo hi => (opnd a (evE C a)).bind fun x => (partM lo (evE C lo)).bind fun l => (partM hi (evE C hi)).bind fun h => (resO x).bind fun d => lift (slD d l h)
  | .rev a => (frz (evE C a)).bind fun d => lift (rvD d)
  | .tup es => (evDs C es).bind fun ds => if ds.length ≤ sizeLine then M.pure (.sh (.tuple ds)) else bad
  | .lst es => (evDs C es).bind fun ds => if ds.length ≤ sizeLine then M.pure (.ow (.lst ds)) else bad
  | .dic ks vs => match keysE ks with
    | some l => noErr ((evDs C vs).bind fun ds => lift (dicD l ds))
    | none => bad
  | .dtk es => noErr ((evDs C es).bind fun ds => lift (dtkD ds))
  | .call f es => if hasT (C.io f) then (if isTmp es then (evT C es).bind (tmpM C f) else (evAs C (C.io f) es).bind fun as => callM C f as) else (evOs C es).bind fun xs => callN C f xs
  | .bf b es => (evOs C es).bind fun xs => (resOs xs).bind fun ds => lift (bfD b ds)
  | .isi a ts => (opnd a (evE C a)).bind fun x => (resO x).bind fun d => M.pure (.sh (.bool (ts.any (isTy d))))
  | .lc src tg c e own => lcM own (fun d => (putT tg d).bind fun _ => (testM (evE C c)).bind fun k => if k then (frz (evE C e)).bind fun x => M.pure (some x) else M.pure none) (evSrc C src)
  | .lcl i tg c e own => lcL own (fun d => (putT tg d).bind fun _ => (testM (evE C c)).bind fun k => if k then (frz (evE C e)).bind fun x => M.pure (some x) else M.pure none) i
  | .pop i e => (ownL i).bind fun _ => (frz (evE C e)).bind fun d => (ownL i).bind fun xs => popM i d xs
  | .app i e => (ownL i).bind fun _ => (frz (evE C e)).bind fun d => (ownL i).bind fun xs => appM i d xs
  | .ext i e => (ownL i).bind fun _ => (frz (evE C e)).bind fun d => (ownL i).bind fun xs => extM i d xs
  | .ins i k e => (ownL i).bind fun _ => (frz (evE C k)).bind fun q => (frz (evE C e)).bind fun d => (ownL i).bind fun xs => insM i q d xs
  | .rfd _ g es ks => match C.lw with
    | none => bad
    | some run => rfdM ks ((evAs C (C.io g) es).bind fun as => callR run g as)
def evAnd (C : Cal) : Exs → M Bool
  | .nil => M.pure true
  | .cons e es => (testM (evE C e)).bind fun k => if k then evAnd C es else M.pure false
def evOr (C : Cal) : Exs → M Bool
  | .nil => M.pure false
  | .cons e es => (testM (evE C e)).bind fun k => if k then M.pure true else evOr C es
def evT (C : Cal) : Exs → M Sl
  | .nil => bad
  | .cons e _ => evE C e
def evDs (C : Cal) : Exs → M (List D)
  | .nil => M.pure []
  | .cons e es => (frz (evE C e)).bind fun d => (evDs C es).bind fun ds => M.pure (d :: ds)
def evOs (C : Cal) : Exs → M (List Op)
  | .nil => M.pure []
  | .cons e es => (opnd e (evE C e)).bind fun d => (evOs C es).bind fun ds => M.pure (d :: ds)
def evAs (C : Cal) : List Bool → Exs → M (List Ag)
  | [], .nil => M.pure []
  | b :: bs, .cons e es => (argM b e (evE C e)).bind fun d => (evAs C bs es).bind fun ds => M.pure (d :: ds)
  | _, _ => bad
def evSrc (C : Cal) : Src → M (List D)
  | .seq e => (frz (evE C e)).bind fun d => lift (seqD d)
  | .rng es => (evDs C es).bind fun ds => lift (rngD ds)
  | .zip a b => (frz (evE C a)).bind fun x => (frz (evE C b)).bind fun y => lift (zipD x y)
  | .enu a => (frz (evE C a)).bind fun x => lift (enuD x)
  | .rvd a => (frz (evE C a)).bind fun x => lift (revD x)
  | .vals a => (frz (evE C a)).bind fun x => lift (valsD x)
end

/-! ### statements -/
inductive Fl where
  | nx
  | rt (r : Sl)
def whN (c : M Bool) (b : M Fl) : Nat → M Fl
  | 0 => bad
  | n + 1 => c.bind fun k => if k then b.bind fun f => (match f with
    | .nx => whN c b n
    | .rt r => M.pure (.rt r)) else M.pure .nx
def R.isBad {α : Type} : R α → Prop
  | .bad => True
  | _ => False
open Classical in
noncomputable def whM (c : M Bool) (b : M Fl) : M Fl := fun s => if h : ∃ n, ¬ (whN c b n s).isBad then whN c b (Classical.choose h) s else .bad
def foGo (turn : D → M Fl) : List D → M Fl
  | [] => M.pure .nx
  | d :: ds => (turn d).bind fun f => match f with
    | .nx => foGo turn ds
    | .rt r => M.pure (.rt r)
/-- a store into a name; P: the slots that must stay -/
def asgM (P : List Nat) (i : Nat) (r : Sl) : M Unit := if i ∈ P then bad else setS i r
mutual
def okT (P : List Nat) : Tg → Bool
  | .name i => decide (i ∉ P)
  | .tup ts => okTs P ts
def okTs (P : List Nat) : Tgs → Bool
  | .nil => true
  | .cons t ts => okT P t && okTs P ts
end
def nx (m : M Unit) : M Fl := m.bind fun _ => M.pure .nx
/-- what is returned: an owned name's content leaves with it -/
def retM (P : List Nat) (e : Ex) (m : M Sl) : M Sl := match e with
  | .var i => fun s => match s[i]? with
    | some (.ow o) => if i ∈ P then .bad else .ok (.ow o) (s.set i .un)
    | some (.sh d) => .ok (.sh d) s
    | _ => .bad
  | _ => m
def sixJ (i : Nat) (d : D) (xs : List D) : Option Nat → M Unit
  | some j => setL i (xs.set j d)
  | none => bad
def sixL (i : Nat) (q d : D) (xs : List D) : M Unit := match q with
  | .int n => sixJ i d xs (L2.ixN xs.length n)
  | _ => bad
def setO (i : Nat) (o : Ob) : M Unit := fun s => .ok () (s.set i (.ow o))
/-- what an owned slot holds -/
def ownO (i : Nat) : M Ob := fun s => match s[i]? with
  | some (.ow o) => .ok o s
  | _ => .bad
def sixT (i : Nat) (q d : D) (kvs : List (D × D)) : M Unit := match tkD q, ktD kvs with
  | some k, some m => if m.length < sizeLine then setO i (.dic (unT (ptT m k d))) else bad
  | _, _ => bad
def sixO (i : Nat) (q d : D) : Ob → M Unit
  | .lst xs => sixL i q d xs
  | .dic kvs => sixT i q d kvs
def sixM (i : Nat) (q d : D) : M Unit := (ownO i).bind fun o => sixO i q d o
def runH (P : List Nat) : Hdl → M Fl
  | .set i c => nx (asgM P i c.sl)
  | .ret c => M.pure (.rt c.sl)
/-- behind a try's body -/
def trR (P : List Nat) (m : Nat) (hs : List (Nat × Hdl)) : R Fl → R Fl
  | .err e s => if e.cls < m then (match hs.lookup e.cls with
    | some h => runH P h s
    | none => .err e s) else .bad
  | r => r
mutual
noncomputable def evS (C : Cal) (P : List Nat) : St → M Fl
  | .asg t e => match t with
    | .name i => (evE C e).bind fun r => nx (asgM P i r)
    | .tup ts => if okTs P ts then (frz (evE C e)).bind fun d => nx (putT (.tup ts) d) else bad
  | .par i j a b => if i ∈ P ∨ j ∈ P then bad else (frz (evE C a)).bind fun x => (frz (evE C b)).bind fun y => nx ((setS i (.sh x)).bind fun _ => setS j (.sh y))
  | .par3 i j l a b c => if i ∈ P ∨ j ∈ P ∨ l ∈ P then bad else (frz (evE C a)).bind fun x => (frz (evE C b)).bind fun y => (frz (evE C c)).bind fun z => nx ((setS i (.sh x)).bind fun _ => (setS j (.sh y)).bind fun _ => setS l (.sh z))
  | .six i k e => (frz (evE C e)).bind fun d => (ownO i).bind fun _ => (frz (evE C k)).bind fun q => nx (sixM i q d)
  | .exp e => (evE C e).bind fun _ => M.pure .nx
  | .ret e => (retM P e (evE C e)).bind fun r => M.pure (.rt r)
  | .ite c a b => (testM (evE C c)).bind fun k => if k then evSs C P a else evSs C P b
  | .whl c b => whM (testM (evE C c)) (evSs C P b)
  | .fo src tg b => if okT P tg then (evSrc C src).bind fun ds => foGo (fun d => (putT tg d).bind fun _ => evSs C P b) ds else bad
  | .rai c => fun s => .err ⟨c, none⟩ s
  | .tr b m hs => fun s => trR P m hs (evSs C P b s)
noncomputable def evSs (C : Cal) (P : List Nat) : Sts → M Fl
  | .nil => M.pure .nx
  | .cons st ss => (evS C P st).bind fun f => match f with
    | .nx => evSs C P ss
    | .rt r => M.pure (.rt r)
end
/-! ### defs -/
structure Fd where
  name : Str
  /-- the names by slot, parameters first -/
  N : List Str
  /-- which parameters are in-out -/
  io : List Bool
  body : Sts
def ioAt : Nat → List Bool → List Nat
  | _, [] => []
  | n, true :: r => n :: ioAt (n + 1) r
  | n, false :: r => ioAt (n + 1) r
def outsOf (s : S) : List Nat → Option (List Ob)
  | [] => some []
  | i :: r => match s[i]? with
    | some (.ow o) => (outsOf s r).map (o :: ·)
    | _ => none
def goodArgs : List Bool → List Sl → Bool
  | [], [] => true
  | true :: bs, .ow _ :: vs => goodArgs bs vs
  | false :: bs, .sh _ :: vs => goodArgs bs vs
  | _, _ => false
def startS (n : Nat) (vs : List Sl) : S := vs ++ List.replicate (n - vs.length) .un
noncomputable def runFd (C : Cal) (fd : Fd) (vs : List Sl) : CR :=
  if goodArgs fd.io vs then (match evSs C (ioAt 0 fd.io) fd.body (startS fd.N.length vs) with
    | .bad => .bad
    | .ok .nx s => match outsOf s (ioAt 0 fd.io) with
      | some outs => .ok (.sh .none) outs
      | none => .bad
    | .ok (.rt r) s => match outsOf s (ioAt 0 fd.io) with
      | some outs => .ok r outs
      | none => .bad
    | .err e s => match outsOf s (ioAt 0 fd.io) with
      | some outs => .err e outs
      | none => .bad) else .bad
structure Pr where
  defs : List Fd
  con : Str → Option D
noncomputable def calAt (p : Pr) : Nat → Cal
  | 0 => ⟨fun f => (p.defs[f]?.map (·.io)).getD [], fun _ _ => .bad, p.con, none⟩
  | 1 => ⟨fun f => (p.defs[f]?.map (·.io)).getD [], fun f vs => match p.defs[f]? with
    | some fd => runFd (calAt p 0) fd vs
    | none => .bad, p.con, none⟩
  | k + 2 => ⟨fun f => (p.defs[f]?.map (·.io)).getD [], fun f vs => match p.defs[f]? with
    | some fd => runFd (calAt p (k + 1)) fd vs
    | none => .bad, p.con, some (calAt p k).run⟩
end Hg
set_option Elab.async false
set_option linter.all false
set_option maxRecDepth 100000
set_option maxHeartbeats 400000
/-! Data and slots over the abstract heap. -/
namespace Hg
open PySem PySem.Spec PyProof.Rows L2

/-- not a table of code objects -/
def NT (o : HO) : Prop := ∀ ps, o ≠ .tbl ps
theorem NT.lst {xs : List V} : NT (.lst xs) := fun _ z => nomatch z
theorem NT.tup {xs : List V} : NT (.tup xs) := fun _ z => nomatch z
theorem NT.frz {o : Obj} {u : HO} : NT (.frz o u) := fun _ z => nomatch z
theorem NT.ext {φ : Heap → Prop} : NT (.ext φ) := fun _ z => nomatch z
theorem NT.dK {xs : List (Key × V)} : NT (.dK xs) := fun _ z => nomatch z
/-- the code object of a def, its table -/
def codeRef (fd : FuncData) : Addr := match fd.code with
  | .ref c => c
  | _ => 0
def tabAt (K : PySem.W.Frag) (c : Addr) : Addr := match K.lookup c with
  | some ⟨_, _, .fields fs, _⟩ => (match fs.getD 11 .none with
    | .ref t => t
    | _ => 0)
  | _ => 0
/-- the defs that are known: code, table, what a lambda of theirs is called -/
def cods (K : PySem.W.Frag) : List (Addr × Addr × Str) := K.filterMap fun p => match p.2.data with
  | .func fd => if fd.globals = mainGlobals then some (codeRef fd, tabAt K (codeRef fd), fd.qualname ++ ".<locals>." ++ "<lambda>") else none
  | _ => none
def TbL (K : PySem.W.Frag) : List (Addr × Str) := (cods K).map fun c => (c.2.1, c.2.2)
def Tb (K : PySem.W.Frag) (H : Hp) : Prop := LamX.Tabs (TbL K) H
def notCode (o : HO) : Prop := NT o ∧ ∀ c q, o ≠ LamX.CodeO c q
theorem Tb.new {K : PySem.W.Frag} {H : Hp} {p : Addr} {o : HO} (t : Tb K H) (h : H p = none) : Tb K (upd H p o) := LamX.Tabs.ext t fun b u e => by rw [upd_ne (ne_of_none e h)]; exact e
theorem Tb.put {K : PySem.W.Frag} {H : Hp} {p : Addr} {o u : HO} (t : Tb K H) (h : H p = some u) (n : notCode u) : Tb K (upd H p o) := fun z hz => by
  obtain ⟨ps, h1, h2, h3⟩ := t z hz
  refine ⟨ps, ?_, h2, fun pos cv hc => ?_⟩
  · rw [upd_ne fun y => ?_]
    · exact h1
    · rw [y, h] at h1
      exact n.1 ps (Option.some.inj h1)
  · obtain ⟨c, e1, e2⟩ := h3 pos cv hc
    refine ⟨c, e1, ?_⟩
    rw [upd_ne fun y => ?_]
    · exact e2
    · rw [y, h] at e2
      exact n.2 _ _ (Option.some.inj e2)
theorem notCode.lst {xs : List V} : notCode (.lst xs) := ⟨(fun _ z => nomatch z), fun _ _ z => by unfold LamX.CodeO at z; cases z⟩
/-- the very object -/
def ExO (a : Addr) (o : Obj) : HO := .ext fun h => h.get? a = some o
abbrev Xs := List (List Int × Addr × Value)
def entO (x : List Int × Addr × Value) : DictEntry := ⟨tkh x.1, .ref x.2.1, x.2.2⟩
/-- the object of a dict with such entries -/
structure DOb (a : Addr) (o : Obj) (xs : Xs) : Prop where
  ex : o.ExactDict
  dat : ∃ es ep, o.data = .dict es ep ∧ es.toList = xs.map entO
  nd : (xs.map (·.1)).Nodup
  len : xs.length ≤ sizeLine
  sys : (a == sysModules) = false
theorem notCode.ex {a : Addr} {o : Obj} {xs : Xs} (d : DOb a o xs) : notCode (ExO a o) := by
  refine ⟨NT.ext, fun c q z => ?_⟩
  obtain ⟨es, ep, hd, _⟩ := d.dat
  unfold ExO LamX.CodeO at z
  injection z with z
  have at_ : ∀ b, b ≤ a → (⟨Array.replicate (a + 1) o, {}⟩ : Heap).get? b = some o := fun b hb => by
    unfold Heap.get?
    have e : (Array.replicate (a + 1) o)[b]? = some o := by
      rw [Array.getElem?_replicate, if_pos (Nat.lt_succ_of_le hb)]
    obtain ⟨c, di, da, sl⟩ := o
    dsimp only at hd
    subst hd
    simp only [e]
  let h0 : Heap := ⟨Array.replicate (a + 1) o, {}⟩
  have z2 : (h0.get? a = some o) = (∃ (oc : Obj) (vs : Array Value) (t : Tok), h0.get? c = some oc ∧ oc.data = .fields vs ∧ vs[1]? = some (.str q t)) := congrFun z h0
  have z3 : ∃ (oc : Obj) (vs : Array Value) (t : Tok), (⟨Array.replicate (a + 1) o, {}⟩ : Heap).get? c = some oc ∧ oc.data = .fields vs ∧ vs[1]? = some (.str q t) := by
    rw [← z2]
    exact at_ a (Nat.le_refl _)
  obtain ⟨oc, vs, t, h1, h2, _⟩ := z3
  have hc : c ≤ a := by
    have z := Heap.lt_size h1
    exact Nat.le_of_lt_succ (by simpa using z)
  rw [at_ c hc] at h1
  cases h1
  rw [hd] at h2
  cases h2
theorem notCode.dK {xs : List (Key × V)} : notCode (.dK xs) := ⟨(fun _ z => nomatch z), fun _ _ z => by unfold LamX.CodeO at z; cases z⟩
def Le (H H' : Hp) : Prop := ∀ b o, NT o → H b = some o → H' b = some o
theorem Le.refl (H : Hp) : Le H H := fun _ _ _ h => h
theorem Le.trans {H H1 H2 : Hp} (a : Le H H1) (b : Le H1 H2) : Le H H2 := fun c o n h => b c o n (a c o n h)
theorem Le.new {H : Hp} {p : Addr} {o : HO} (h : H p = none) : Le H (upd H p o) := fun b u _ e => by rw [upd_ne (ne_of_none e h)]; exact e
theorem Le.rd {H H' : Hp} (l : Le H H') {a : Addr} {u : HO} (n : NT u) (h : Rd H a u) : Rd H' a u := by
  rcases h with h | ⟨o, h⟩
  · exact .inl (l _ _ n h)
  · exact .inr ⟨o, l _ _ .frz h⟩
theorem Le.sqL {H H' : Hp} {K : PySem.W.Frag} (l : Le H H') {a : Addr} {xs : List V} (h : SqL K H a xs) : SqL K H' a xs := h.imp (l.rd .lst) id
/-- a list as it is read: tracked, known, or an object of the module -/
def RdK (K : PySem.W.Frag) (H : Hp) (a : Addr) (xs : List V) : Prop := Rd H a (.lst xs) ∨ ∃ its : List Value, K.lookup a = some { cls := .type "list", data := .seq its.toArray } ∧ its.length ≤ sizeLine ∧ Vals xs its
theorem Le.rdK {H H' : Hp} {K : PySem.W.Frag} (l : Le H H') {a : Addr} {xs : List V} (h : RdK K H a xs) : RdK K H' a xs := h.imp (l.rd .lst) id
theorem RdK.sqL {H : Hp} {K : PySem.W.Frag} {a : Addr} {xs : List V} (h : RdK K H a xs) : SqL K H a xs := h.imp id fun ⟨its, e, z, r⟩ => ⟨_, its.toArray, 0, e, rfl, rfl, rfl, by rw [List.size_toArray]; exact z, by simpa using r⟩
theorem RdK.obj {K : PySem.W.Frag} {P : Program} {w : World} {H : Hp} {h : Heap} {a : Addr} {xs : List V} (r : RdK K H a xs) (kx : K.In h) (ok : HOk P w H h) : xs.length ≤ sizeLine ∧ ∃ (its : List Value) (n : Nat), Vals xs its ∧ h.get? a = some { cls := .type "list", data := .seq its.toArray n } := by
  rcases r with r | ⟨its, e, z, r⟩
  · obtain ⟨z, its, n, r, e⟩ := r.ok ok
    exact ⟨z, its, n, r, e⟩
  · exact ⟨by rw [r.length]; exact z, its, 0, r, kx _ _ e⟩
theorem Le.sqT {H H' : Hp} {K : PySem.W.Frag} (l : Le H H') {a : Addr} {xs : List V} (h : SqT K H a xs) : SqT K H' a xs := h.imp (l.rd .tup) id

def keyD : Key → D
  | .inl i => .int i
  | .inr x => .str x
mutual
/-- the value v bears the data -/
inductive Rp (K : PySem.W.Frag) (H : Hp) : V → D → Prop
  | non : Rp K H .non .none
  | bl (b : Bool) : Rp K H (.bl b) (.bool b)
  | int (i : Int) : Rp K H (.int i) (.int i)
  | str (x : Str) : Rp K H (.str x) (.str x)
  | lst {a : Addr} {xs : List V} {ds : List D} : RdK K H a xs → RpA K H xs ds → Rp K H (.ref a) (.list ds)
  | tup {a : Addr} {xs : List V} {ds : List D} : SqT K H a xs → RpA K H xs ds → Rp K H (.ref a) (.tuple ds)
  | dE {a : Addr} {o : Obj} {xs : Xs} {kvs : List (D × D)} : H a = some (ExO a o) → DOb a o xs → RpE K H xs kvs → Rp K H (.ref a) (.dict kvs)
  | dK {a : Addr} {ks : List (Key × V)} {kvs : List (D × D)} : H a = some (.dK ks) → ks ≠ [] → RpK K H ks kvs → Rp K H (.ref a) (.dict kvs)
inductive RpA (K : PySem.W.Frag) (H : Hp) : List V → List D → Prop
  | nil : RpA K H [] []
  | cons {v : V} {vs : List V} {d : D} {ds : List D} : Rp K H v d → RpA K H vs ds → RpA K H (v :: vs) (d :: ds)
inductive RpE (K : PySem.W.Frag) (H : Hp) : Xs → List (D × D) → Prop
  | nil : RpE K H [] []
  | cons {k : List Int} {b : Addr} {u : Value} {v : V} {xs : Xs} {d : D} {ds : List (D × D)} : SqT K H b (k.map V.int) → RelV v u → Rp K H v d → RpE K H xs ds → RpE K H ((k, b, u) :: xs) ((keyT k, d) :: ds)
inductive RpK (K : PySem.W.Frag) (H : Hp) : List (Key × V) → List (D × D) → Prop
  | nil : RpK K H [] []
  | cons {k : Key} {v : V} {vs : List (Key × V)} {d : D} {ds : List (D × D)} : Rp K H v d → RpK K H vs ds → RpK K H ((k, v) :: vs) ((keyD k, d) :: ds)
end
section
variable {K : PySem.W.Frag} {H H' : Hp}
mutual
theorem Rp.mono (l : Le H H') : ∀ (d : D) (v : V), Rp K H v d → Rp K H' v d
  | .none, _, h => by cases h; exact .non
  | .bool b, _, h => by cases h; exact .bl b
  | .int i, _, h => by cases h; exact .int i
  | .str x, _, h => by cases h; exact .str x
  | .list ds, _, h => by
    cases h with
    | lst a b => exact .lst (l.rdK a) (RpA.mono l _ _ b)
  | .tuple ds, _, h => by
    cases h with
    | tup a b => exact .tup (l.sqT a) (RpA.mono l _ _ b)
  | .dict kvs, _, h => by
    cases h with
    | dE a c b => exact .dE (l _ _ .ext a) c (RpE.mono l _ _ b)
    | dK a n b => exact .dK (l _ _ .dK a) n (RpK.mono l _ _ b)
theorem RpA.mono (l : Le H H') : ∀ (ds : List D) (vs : List V), RpA K H vs ds → RpA K H' vs ds
  | [], _, h => by cases h; exact .nil
  | d :: ds, _, h => by
    cases h with
    | cons a b => exact .cons (Rp.mono l _ _ a) (RpA.mono l _ _ b)
theorem RpE.mono (l : Le H H') : ∀ (ds : List (D × D)) (vs : Xs), RpE K H vs ds → RpE K H' vs ds
  | [], _, h => by cases h; exact .nil
  | (_, d) :: ds, _, h => by
    cases h with
    | cons a r b c => exact .cons (l.sqT a) r (Rp.mono l _ _ b) (RpE.mono l _ _ c)
theorem RpK.mono (l : Le H H') : ∀ (ds : List (D × D)) (vs : List (Key × V)), RpK K H vs ds → RpK K H' vs ds
  | [], _, h => by cases h; exact .nil
  | (_, d) :: ds, _, h => by
    cases h with
    | cons a b => exact .cons (Rp.mono l _ _ a) (RpK.mono l _ _ b)
end
theorem RpA.length : ∀ {vs : List V} {ds : List D}, RpA K H vs ds → vs.length = ds.length
  | _, _, .nil => rfl
  | _, _, .cons _ b => congrArg Nat.succ b.length
theorem RpA.get : ∀ {vs : List V} {ds : List D} {i : Nat} {d : D}, RpA K H vs ds → ds[i]? = some d → ∃ v, vs[i]? = some v ∧ Rp K H v d
  | _, _, _, _, .nil, e => by simp at e
  | _, _, 0, _, .cons a _, e => by simp at e; subst e; exact ⟨_, rfl, a⟩
  | _, _, i + 1, _, .cons _ b, e => by
    obtain ⟨v, h1, h2⟩ := RpA.get (i := i) b (by simpa using e)
    exact ⟨v, by simpa using h1, h2⟩
theorem RpA.append : ∀ {vs ws : List V} {ds es : List D}, RpA K H vs ds → RpA K H ws es → RpA K H (vs ++ ws) (ds ++ es)
  | _, _, _, _, .nil, h => h
  | _, _, _, _, .cons a b, h => .cons a (b.append h)
theorem RpA.take : ∀ {vs : List V} {ds : List D} (n : Nat), RpA K H vs ds → RpA K H (vs.take n) (ds.take n)
  | _, _, 0, _ => .nil
  | _, _, _ + 1, .nil => .nil
  | _, _, n + 1, .cons a b => .cons a (RpA.take n b)
theorem RpA.drop : ∀ {vs : List V} {ds : List D} (n : Nat), RpA K H vs ds → RpA K H (vs.drop n) (ds.drop n)
  | _, _, 0, h => h
  | _, _, _ + 1, .nil => .nil
  | _, _, n + 1, .cons _ b => RpA.drop n b
theorem RpA.set {v : V} {d : D} (h : Rp K H v d) : ∀ {vs : List V} {ds : List D} (n : Nat), RpA K H vs ds → RpA K H (vs.set n v) (ds.set n d)
  | _, _, _, .nil => .nil
  | _, _, 0, .cons _ b => .cons h b
  | _, _, n + 1, .cons a b => .cons a (RpA.set h n b)
theorem RpA.erase : ∀ {vs : List V} {ds : List D} (n : Nat), RpA K H vs ds → RpA K H (vs.eraseIdx n) (ds.eraseIdx n)
  | _, _, _, .nil => .nil
  | _, _, 0, .cons _ b => b
  | _, _, n + 1, .cons a b => .cons a (RpA.erase n b)
theorem RpA.reverse {vs : List V} {ds : List D} (h : RpA K H vs ds) : RpA K H vs.reverse ds.reverse := by
  have go : ∀ {vs : List V} {ds : List D}, RpA K H vs ds → RpA K H vs.reverse ds.reverse := by
    intro vs
    induction vs with
    | nil => intro ds h; cases h; exact .nil
    | cons v vs ih =>
      intro ds h
      cases h with
      | cons a b =>
        rw [List.reverse_cons, List.reverse_cons]
        exact (ih b).append (.cons a .nil)
  exact go h
theorem RpA.rep {vs : List V} {ds : List D} (h : RpA K H vs ds) : ∀ n, RpA K H (List.replicate n vs).flatten (List.replicate n ds).flatten
  | 0 => .nil
  | n + 1 => by
    rw [List.replicate_succ, List.replicate_succ, List.flatten_cons, List.flatten_cons]
    exact h.append (RpA.rep h n)
theorem RpA.ints : ∀ {vs : List V} {ds : List D} {ns : List Int}, RpA K H vs ds → intsD ds = some ns → vs = ns.map V.int
  | _, _, ns, .nil, e => by
    have e : some [] = some ns := e
    cases e; rfl
  | _, _, ns, .cons (d := d) (ds := ds) a b, e => by
    cases d with
    | int i =>
      cases a
      have e : (intsD ds).map (i :: ·) = some ns := e
      cases q : intsD ds with
      | none => rw [q] at e; cases e
      | some ms =>
        rw [q] at e
        cases e
        rw [RpA.ints b q] <;> rfl
    | _ => cases e
theorem RpA.bools : ∀ {vs : List V} {ds : List D} {r : Bool}, RpA K H vs ds → allB ds = some r → ∃ bs : List Bool, vs = bs.map V.bl ∧ r = bs.all id
  | _, _, r, .nil, e => by
    have e : some true = some r := e
    cases e; exact ⟨[], rfl, rfl⟩
  | _, _, r, .cons (d := d) (ds := ds) a b, e => by
    cases d with
    | bool k =>
      cases a
      have e : (allB ds).map (k && ·) = some r := e
      cases q : allB ds with
      | none => rw [q] at e; cases e
      | some r' =>
        rw [q] at e
        cases e
        obtain ⟨bs, e1, e2⟩ := RpA.bools b q
        exact ⟨k :: bs, by rw [e1] <;> rfl, by rw [e2] <;> rfl⟩
    | _ => cases e
mutual
/-- data without dicts, as the layer has it -/
theorem Rp.dp : ∀ (d : D) (v : V), Rp K H v d → d.canLay0 = true → Dp K H v d
  | .none, _, h, _ => by cases h; exact .non
  | .bool b, _, h, _ => by cases h; exact .bl b
  | .int i, _, h, _ => by cases h; exact .int i
  | .str x, _, h, _ => by cases h; exact .str x
  | .list ds, _, h, c => by
    cases h with
    | lst a b => exact .lst a.sqL (RpA.dp _ _ b (by simpa [PyData.canLay0] using c))
  | .tuple ds, _, h, c => by
    cases h with
    | tup a b => exact .tup a (RpA.dp _ _ b (by simpa [PyData.canLay0] using c))
  | .dict kvs, _, h, c => by simp [PyData.canLay0] at c
theorem RpA.dp : ∀ (ds : List D) (vs : List V), RpA K H vs ds → PyData.canLayAll0 ds = true → DpAll K H vs ds
  | [], _, h, _ => by cases h; exact .nil
  | d :: ds, _, h, c => by
    have c' : d.canLay0 = true ∧ PyData.canLayAll0 ds = true := by simpa [PyData.canLayAll0] using c
    cases h with
    | cons a b => exact .cons (Rp.dp _ _ a c'.1) (RpA.dp _ _ b c'.2)
end
end

/-! ### what is hidden -/
open Classical in
noncomputable def Hid (N : Addr → Prop) (H : Hp) : Hp := fun b => if N b then none else H b
theorem hid_iff {N : Addr → Prop} {H : Hp} {b : Addr} {o : HO} : Hid N H b = some o ↔ ¬ N b ∧ H b = some o := by
  unfold Hid
  by_cases h : N b
  · simp [h]
  · simp [h]
theorem hid_le {N : Addr → Prop} {H : Hp} : Le (Hid N H) H := fun b o _ e => (hid_iff.mp e).2
abbrev NS := Addr → Prop
def Own (s : S) (σ : L2.St) (b : Addr) : Prop := ∃ (i : Nat) (o : Ob), s[i]? = some (.ow o) ∧ σ[i]? = some (some (.ref b))
def Nn (F : NS) (s : S) (σ : L2.St) : NS := fun b => F b ∨ Own s σ b
def Ad (F : NS) (p : Addr) : NS := fun b => F b ∨ b = p
def OwAt (K : PySem.W.Frag) (N : NS) (H : Hp) (p : Addr) : Ob → Prop
  | .lst ds => ∃ vs, H p = some (.lst vs) ∧ RpA K (Hid N H) vs ds
  | .dic kvs => (∃ o xs, H p = some (ExO p o) ∧ DOb p o xs ∧ RpE K (Hid N H) xs kvs) ∨ (∃ ks, H p = some (.dK ks) ∧ ks ≠ [] ∧ RpK K (Hid N H) ks kvs)
structure StOk (K : PySem.W.Frag) (F : NS) (s : S) (σ : L2.St) (H : Hp) : Prop where
  len : s.length = σ.length
  sh : ∀ (i : Nat) (d : D), s[i]? = some (.sh d) → ∃ v, σ[i]? = some (some v) ∧ Rp K (Hid (Nn F s σ) H) v d
  ow : ∀ (i : Nat) (o : Ob), s[i]? = some (.ow o) → ∃ p, σ[i]? = some (some (.ref p)) ∧ OwAt K (Nn F s σ) H p o
  inj : ∀ (i j : Nat) (o o' : Ob) (p : Addr), s[i]? = some (.ow o) → s[j]? = some (.ow o') → σ[i]? = some (some (.ref p)) → σ[j]? = some (some (.ref p)) → i = j
  ap : ∀ b, Own s σ b → ¬ F b
  dom : ∀ b, F b → ∃ o, H b = some o ∧ notCode o
  tb : Tb K H
structure Fr (F N : NS) (H : Hp) (N' : NS) (H' : Hp) : Prop where
  keep : ∀ b, F b → H' b = H b
  imm : ∀ b o, ¬ N b → NT o → H b = some o → H' b = some o ∧ ¬ N' b
section
variable {K : PySem.W.Frag} {F N N1 N2 : NS} {s s1 s2 : S} {σ : L2.St} {H H' H1 H2 : Hp}
theorem Fr.le (f : Fr F N H N1 H1) : Le (Hid N H) (Hid N1 H1) := fun b o n e => by
  obtain ⟨a, e⟩ := hid_iff.mp e
  obtain ⟨c, d⟩ := f.imm b o a n e
  exact hid_iff.mpr ⟨d, c⟩
theorem Fr.refl : Fr F N H N H := ⟨fun _ _ => rfl, fun _ _ n _ e => ⟨e, n⟩⟩
theorem Fr.trans (a : Fr F N H N1 H1) (b : Fr F N1 H1 N2 H2) : Fr F N H N2 H2 :=
  ⟨fun c h => (b.keep c h).trans (a.keep c h), fun c o n t e => let ⟨e1, n1⟩ := a.imm c o n t e; b.imm c o n1 t e1⟩
theorem OwAt.there' {p : Addr} {o : Ob} (h : OwAt K N H p o) : ∃ u, H p = some u ∧ notCode u := by
  cases o with
  | lst ds => obtain ⟨vs, e, _⟩ := h; exact ⟨_, e, .lst⟩
  | dic kvs =>
    rcases h with ⟨o, xs, e, d, _⟩ | ⟨ks, e, _⟩
    · exact ⟨_, e, .ex d⟩
    · exact ⟨_, e, .dK⟩
theorem OwAt.there {p : Addr} {o : Ob} (h : OwAt K N H p o) : ∃ u, H p = some u := let ⟨u, e, _⟩ := h.there'; ⟨u, e⟩
theorem OwAt.mono {p : Addr} {o : Ob} (h : OwAt K N H p o) (e : H1 p = H p) (l : Le (Hid N H) (Hid N1 H1)) : OwAt K N1 H1 p o := by
  cases o with
  | lst ds => obtain ⟨vs, e1, r⟩ := h; exact ⟨vs, e.trans e1, RpA.mono l _ _ r⟩
  | dic kvs =>
    rcases h with ⟨o, xs, e1, c, r⟩ | ⟨ks, e1, n, r⟩
    · exact .inl ⟨o, xs, e.trans e1, c, RpE.mono l _ _ r⟩
    · exact .inr ⟨ks, e.trans e1, n, RpK.mono l _ _ r⟩
theorem OwAt.rp {p : Addr} {o : Ob} (h : OwAt K N H p o) (l : Le (Hid N H) H1) (e : H1 p = H p) : Rp K H1 (.ref p) o.val := by
  cases o with
  | lst ds => obtain ⟨vs, e1, r⟩ := h; exact .lst (.inl (.inl (e.trans e1))) (RpA.mono l _ _ r)
  | dic kvs =>
    rcases h with ⟨o, xs, e1, c, r⟩ | ⟨ks, e1, n, r⟩
    · exact .dE (e.trans e1) c (RpE.mono l _ _ r)
    · exact .dK (e.trans e1) n (RpK.mono l _ _ r)
theorem StOk.own' (k : StOk K F s σ H) {b : Addr} (h : Own s σ b) : ∃ u, H b = some u ∧ notCode u := by
  obtain ⟨i, o, e1, e2⟩ := h
  obtain ⟨p, e3, q⟩ := k.ow i o e1
  rw [e2] at e3
  cases e3
  exact q.there'
theorem StOk.own (k : StOk K F s σ H) {b : Addr} (h : Own s σ b) : ∃ u, H b = some u := let ⟨u, e, _⟩ := k.own' h; ⟨u, e⟩
theorem StOk.nn' (k : StOk K F s σ H) {b : Addr} (h : Nn F s σ b) : ∃ u, H b = some u ∧ notCode u := h.elim (k.dom b) k.own'
theorem StOk.nn (k : StOk K F s σ H) {b : Addr} (h : Nn F s σ b) : ∃ u, H b = some u := let ⟨u, e, _⟩ := k.nn' h; ⟨u, e⟩
theorem StOk.free (k : StOk K F s σ H) {b : Addr} (h : H b = none) : ¬ Nn F s σ b := fun z => by
  obtain ⟨u, e⟩ := k.nn z
  rw [h] at e; cases e
/-- the owned slots stand as they stood, what is not hidden too -/
theorem StOk.keep (k : StOk K F s σ H) (f : Fr F (Nn F s σ) H (Nn F s σ) H1) (o : ∀ b, Own s σ b → H1 b = H b) (t : Tb K H1) : StOk K F s σ H1 := by
  refine ⟨k.len, fun i d e => ?_, fun i u e => ?_, k.inj, k.ap, fun b h => ?_, t⟩
  · obtain ⟨v, e1, r⟩ := k.sh i d e
    exact ⟨v, e1, Rp.mono f.le _ _ r⟩
  · obtain ⟨p, e1, q⟩ := k.ow i u e
    exact ⟨p, e1, q.mono (o p ⟨i, u, e, e1⟩) f.le⟩
  · rw [f.keep b h]; exact k.dom b h
/-- a new object that stands by itself -/
theorem fr_new {p : Addr} {o : HO} (hn : ∀ b, N b → ∃ u, H b = some u) (hF : ∀ b, F b → N b) (h : H p = none) : Fr F N H N (upd H p o) := by
  refine ⟨fun b hb => ?_, fun b u n _ e => ⟨?_, n⟩⟩
  · obtain ⟨u, e⟩ := hn b (hF b hb)
    rw [upd_ne (ne_of_none e h)]
  · rw [upd_ne (ne_of_none e h)]; exact e
theorem StOk.frNew (k : StOk K F s σ H) {p : Addr} {o : HO} (h : H p = none) : Fr F (Nn F s σ) H (Nn F s σ) (upd H p o) := fr_new (fun _ => k.nn) (fun _ => .inl) h
theorem StOk.new (k : StOk K F s σ H) {p : Addr} {o : HO} (h : H p = none) : StOk K F s σ (upd H p o) :=
  k.keep (k.frNew h) (fun b hb => by
    obtain ⟨u, e⟩ := k.own hb
    rw [upd_ne (ne_of_none e h)]) (k.tb.new h)
/-- .. that is kept for itself -/
theorem StOk.newOw (k : StOk K F s σ H) {p : Addr} {o : HO} (nc : notCode o) (h : H p = none) : StOk K (Ad F p) s σ (upd H p o) ∧ Fr F (Nn F s σ) H (Nn (Ad F p) s σ) (upd H p o) := by
  have hp : ¬ Nn F s σ p := k.free h
  have f : Fr F (Nn F s σ) H (Nn (Ad F p) s σ) (upd H p o) := by
    refine ⟨(k.frNew h).keep, fun b u n t e => ?_⟩
    have hb : b ≠ p := ne_of_none e h
    refine ⟨by rw [upd_ne hb]; exact e, fun z => ?_⟩
    rcases z with (z | z) | z
    · exact n (.inl z)
    · exact hb z
    · exact n (.inr z)
  refine ⟨⟨k.len, fun i d e => ?_, fun i u e => ?_, k.inj, fun b hb z => ?_, fun b z => ?_, k.tb.new h⟩, f⟩
  · obtain ⟨v, e1, r⟩ := k.sh i d e
    exact ⟨v, e1, Rp.mono f.le _ _ r⟩
  · obtain ⟨q, e1, r⟩ := k.ow i u e
    obtain ⟨w, e2⟩ := k.own ⟨i, u, e, e1⟩
    exact ⟨q, e1, r.mono (upd_ne (ne_of_none e2 h)) f.le⟩
  · rcases z with z | z
    · exact k.ap b hb z
    · rw [z] at hb; exact hp (.inr hb)
  · rcases z with z | z
    · obtain ⟨u, e, n⟩ := k.dom b z
      exact ⟨u, by rw [upd_ne (ne_of_none e h)]; exact e, n⟩
    · rw [z]; exact ⟨o, upd_same, nc⟩
/-- what was kept for itself is let go -/
theorem StOk.loose {p : Addr} (k : StOk K (Ad F p) s σ H) : StOk K F s σ H ∧ Le (Hid (Nn (Ad F p) s σ) H) (Hid (Nn F s σ) H) := by
  have l : Le (Hid (Nn (Ad F p) s σ) H) (Hid (Nn F s σ) H) := fun b o _ e => by
    obtain ⟨n, e⟩ := hid_iff.mp e
    exact hid_iff.mpr ⟨fun z => n (z.elim (fun z => .inl (.inl z)) .inr), e⟩
  refine ⟨⟨k.len, fun i d e => ?_, fun i u e => ?_, k.inj, fun b hb z => k.ap b hb (.inl z), fun b z => k.dom b (.inl z), k.tb⟩, l⟩
  · obtain ⟨v, e1, r⟩ := k.sh i d e
    exact ⟨v, e1, Rp.mono l _ _ r⟩
  · obtain ⟨q, e1, r⟩ := k.ow i u e
    exact ⟨q, e1, r.mono rfl l⟩
end

/-! ### what lies behind a run -/
section
variable (K : PySem.W.Frag) (F : NS) (s : S) (σ : L2.St) (H : Hp)
/-- data -/
structure AftD (d : D) (s' : S) (v : V) (H' : Hp) : Prop where
  ok : StOk K F s' σ H'
  fr : Fr F (Nn F s σ) H (Nn F s' σ) H'
  rp : Rp K (Hid (Nn F s' σ) H') v d
/-- an owned thing -/
structure AftW (o : Ob) (s' : S) (p : Addr) (H' : Hp) : Prop where
  ok : StOk K (Ad F p) s' σ H'
  fr : Fr F (Nn F s σ) H (Nn (Ad F p) s' σ) H'
  nf : ¬ F p
  at_ : OwAt K (Nn (Ad F p) s' σ) H' p o
def AftS (r : Sl) (s' : S) (v : V) (H' : Hp) : Prop := match r with
  | .un => False
  | .sh d => AftD K F s σ H d s' v H'
  | .ow o => ∃ p, v = .ref p ∧ AftW K F s σ H o s' p H'
def AftO (x : Op) (s' : S) (v : V) (H' : Hp) : Prop := match x with
  | .d d => AftD K F s σ H d s' v H'
  | .v i => s' = s ∧ H' = H ∧ σ[i]? = some (some v) ∧ ∃ o, s[i]? = some (.ow o)
end
section
variable {K : PySem.W.Frag} {F : NS} {s s1 s' : S} {σ : L2.St} {H H1 H' : Hp}
theorem AftW.aftD {o : Ob} {p : Addr} (h : AftW K F s σ H o s' p H') : AftD K F s σ H o.val s' (.ref p) H' := by
  obtain ⟨k, l⟩ := h.ok.loose
  refine ⟨k, ⟨h.fr.keep, fun b o n t e => ?_⟩, ?_⟩
  · obtain ⟨e1, n1⟩ := h.fr.imm b o n t e
    exact ⟨e1, fun z => n1 (z.elim (fun z => .inl (.inl z)) .inr)⟩
  · obtain ⟨u, e⟩ := h.at_.there
    have hp : ¬ Nn F s' σ p := fun z => by
      rcases z with z | z
      · exact h.nf z
      · exact h.ok.ap p z (.inr rfl)
    exact h.at_.rp l (by rw [e]; exact hid_iff.mpr ⟨hp, e⟩)
theorem AftS.data {r : Sl} {d : D} {v : V} (h : AftS K F s σ H r s' v H') (e : r.data = some d) : AftD K F s σ H d s' v H' := by
  cases r with
  | un => cases e
  | sh d' => cases e; exact h
  | ow o =>
    cases e
    obtain ⟨p, rfl, q⟩ := h
    exact q.aftD
/-- told from an earlier state -/
theorem AftD.back (f : Fr F (Nn F s σ) H (Nn F s1 σ) H1) {d : D} {v : V} (h : AftD K F s1 σ H1 d s' v H') : AftD K F s σ H d s' v H' := ⟨h.ok, f.trans h.fr, h.rp⟩
theorem AftW.back (f : Fr F (Nn F s σ) H (Nn F s1 σ) H1) {o : Ob} {p : Addr} (h : AftW K F s1 σ H1 o s' p H') : AftW K F s σ H o s' p H' := ⟨h.ok, f.trans h.fr, h.nf, h.at_⟩
theorem AftS.back (f : Fr F (Nn F s σ) H (Nn F s1 σ) H1) {r : Sl} {v : V} (h : AftS K F s1 σ H1 r s' v H') : AftS K F s σ H r s' v H' := by
  cases r with
  | un => exact h
  | sh d => exact AftD.back f h
  | ow o =>
    obtain ⟨p, e, q⟩ := h
    exact ⟨p, e, q.back f⟩
end
end Hg
set_option Elab.async false
set_option linter.all false
set_option maxRecDepth 100000
set_option maxHeartbeats 400000
/-! Expressions run as their terms say. -/
namespace Hg
open PySem PySem.Spec PyProof.Rows L2

/-- how an error shows: its class -/
def ErR (EC : Nat → Addr) (e : Er) (cls : Value) (d : Option Addr) : Prop := cls = .ref (EC e.cls) ∧ d = none
/-- a run's end at a state -/
def Wp {α : Type} (K : PySem.W.Frag) (EC : Nat → Addr) (W : WX) (F : NS) (s : S) (σ : L2.St) (H : Hp) (r : R α) (Φ : α → S → Prop) : Prop := match r with
  | .bad => False
  | .ok a s' => Φ a s'
  | .err e s' => ∀ (H' : Hp) (cls : Value) (d : Option Addr), StOk K F s' σ H' → Fr F (Nn F s σ) H (Nn F s' σ) H' → ErR EC e cls d → W cls d σ H'
section
variable {K : PySem.W.Frag} {EC : Nat → Addr} {W : WX} {F : NS} {s s1 : S} {σ : L2.St} {H H1 : Hp} {α β : Type}
theorem Wp.mono {r : R α} {Φ Φ' : α → S → Prop} (h : Wp K EC W F s σ H r Φ) (k : ∀ a s', Φ a s' → Φ' a s') : Wp K EC W F s σ H r Φ' := by
  cases r with
  | bad => exact h
  | ok a s' => exact k a s' h
  | err e s' => exact h
theorem Wp.bind {m : M α} {f : α → M β} {Φ : β → S → Prop} (h : Wp K EC W F s σ H ((m.bind f) s1) Φ) : Wp K EC W F s σ H (m s1) fun a s2 => Wp K EC W F s σ H (f a s2) Φ := by
  have e : (m.bind f) s1 = (m s1).bind fun a s' => f a s' := rfl
  rw [e] at h
  cases q : m s1 with
  | bad => rw [q] at h; exact h
  | ok a s' => rw [q] at h; exact h
  | err e s' => rw [q] at h; exact h
/-- told from a later state -/
theorem Wp.on {r : R α} {Φ : α → S → Prop} (f : Fr F (Nn F s σ) H (Nn F s1 σ) H1) (h : Wp K EC W F s σ H r Φ) : Wp K EC W F s1 σ H1 r Φ := by
  cases r with
  | bad => exact h
  | ok a s' => exact h
  | err e s' => exact fun H' cls d k g x => h H' cls d k (f.trans g) x
theorem Wp.lift {o : Option α} {Φ : α → S → Prop} (h : Wp K EC W F s σ H (lift o s1) Φ) : ∃ a, o = some a ∧ Φ a s1 := by
  cases o with
  | none => exact False.elim h
  | some a => exact ⟨a, rfl, h⟩
end

/-! ### readings -/
section
variable (K : PySem.W.Frag) (EC : Nat → Addr) (W : WX)
structure AftDs (F : NS) (s : S) (σ : L2.St) (H : Hp) (ds : List D) (s' : S) (vs : List V) (H' : Hp) : Prop where
  ok : StOk K F s' σ H'
  fr : Fr F (Nn F s σ) H (Nn F s' σ) H'
  rp : RpA K (Hid (Nn F s' σ) H') vs ds
structure AftB (F : NS) (s : S) (σ : L2.St) (H : Hp) (s' : S) (H' : Hp) : Prop where
  ok : StOk K F s' σ H'
  fr : Fr F (Nn F s σ) H (Nn F s' σ) H'
def tE (m : M Sl) : TE := fun σ H Q => ∃ F s, StOk K F s σ H ∧ Wp K EC W F s σ H (m s) fun r s' => ∀ v H', AftS K F s σ H r s' v H' → Q v H'
def tD (m : M D) : TE := fun σ H Q => ∃ F s, StOk K F s σ H ∧ Wp K EC W F s σ H (m s) fun r s' => ∀ v H', AftD K F s σ H r s' v H' → Q v H'
def tO (m : M Op) : TE := fun σ H Q => ∃ F s, StOk K F s σ H ∧ Wp K EC W F s σ H (m s) fun r s' => ∀ v H', AftO K F s σ H r s' v H' → Q v H'
def tDs (m : M (List D)) : TA := fun σ H Q => ∃ F s, StOk K F s σ H ∧ Wp K EC W F s σ H (m s) fun r s' => ∀ v H', AftDs K F s σ H r s' v H' → Q v H'
def tBo (m : M Bool) : TT := fun σ H Q => ∃ F s, StOk K F s σ H ∧ Wp K EC W F s σ H (m s) fun b s' => ∀ H', AftB K F s σ H s' H' → Q b H'
end
theorem peW {X : Cx} {e : Expr} {t t' : TE} (h : PE X e t) (w : ∀ σ H Q, t' σ H Q → t σ H Q) : PE X e t' := ⟨fun pins s σ H Q I q => h.run pins s σ H Q I (w σ H Q q)⟩
theorem ptW {X : Cx} {e : Expr} {t t' : TT} (h : PT X e t) (w : ∀ σ H Q, t' σ H Q → t σ H Q) : PT X e t' := ⟨fun pins s σ H Q I q => h.run pins s σ H Q I (w σ H Q q)⟩
theorem pwW {X : Cx} {e : Expr} {t t' : TT} (h : PW X e t) (w : ∀ σ H Q, t' σ H Q → t σ H Q) : PW X e t' := ⟨fun wh pins s σ H Q I q => h.run wh pins s σ H Q I (w σ H Q q)⟩
theorem paW {X : Cx} {e : List Expr} {t t' : TA} (h : PA X e t) (w : ∀ σ H Q, t' σ H Q → t σ H Q) : PA X e t' := ⟨fun pos pins s σ H Q I q => h.run pos pins s σ H Q I (w σ H Q q)⟩
section
variable {K : PySem.W.Frag} {EC : Nat → Addr} {W : WX} {F N : NS} {s s1 s' : S} {σ : L2.St} {H H1 H' : Hp} {Q : VK}
theorem StOk.get {K : PySem.W.Frag} (k : StOk K F s σ H) {i : Nat} {d : D} (e : s[i]? = some (.sh d)) : ∃ v, σ[i]? = some (some v) ∧ AftD K F s σ H d s v H := by
  obtain ⟨v, e1, r⟩ := k.sh i d e
  exact ⟨v, e1, k, Fr.refl, r⟩
theorem get_lt {s : S} {i : Nat} {x : Sl} (e : s[i]? = some x) : i < s.length := (List.getElem?_eq_some_iff.mp e).1
/-- an owned slot's content is let go: data from then on -/
theorem StOk.share (k : StOk K F s σ H) {i : Nat} {o : Ob} {p : Addr} (e : s[i]? = some (.ow o)) (ep : σ[i]? = some (some (.ref p))) : AftD K F s σ H o.val (s.set i (.sh o.val)) (.ref p) H := by
  have hi := get_lt e
  have own' : ∀ b, Own (s.set i (.sh o.val)) σ b → Own s σ b ∧ b ≠ p := fun b ⟨j, u, e1, e2⟩ => by
    by_cases hj : j = i
    · subst hj
      rw [List.getElem?_set_self hi] at e1
      cases e1
    · rw [List.getElem?_set_ne (Ne.symm hj)] at e1
      refine ⟨⟨j, u, e1, e2⟩, fun z => ?_⟩
      rw [z] at e2
      exact hj (k.inj j i u o p e1 e e2 ep)
  have nn : ∀ b, Nn F (s.set i (.sh o.val)) σ b → Nn F s σ b := fun b z => z.imp id fun z => (own' b z).1
  have l : Le (Hid (Nn F s σ) H) (Hid (Nn F (s.set i (.sh o.val)) σ) H) := fun b u _ z => by
    obtain ⟨a, z⟩ := hid_iff.mp z
    exact hid_iff.mpr ⟨fun y => a (nn b y), z⟩
  obtain ⟨p', e3, q⟩ := k.ow i o e
  rw [ep] at e3
  cases e3
  have np : ¬ Nn F (s.set i (.sh o.val)) σ p := fun z => by
    rcases z with z | z
    · exact k.ap p ⟨i, o, e, ep⟩ z
    · exact (own' p z).2 rfl
  obtain ⟨u, hu⟩ := q.there
  have rp : Rp K (Hid (Nn F (s.set i (.sh o.val)) σ) H) (.ref p) o.val := q.rp l (by rw [hu]; exact hid_iff.mpr ⟨np, hu⟩)
  refine ⟨⟨by rw [List.length_set]; exact k.len, fun j d z => ?_, fun j u z => ?_, fun j j' u u' b z z' y y' => ?_, fun b z => k.ap b (own' b z).1, k.dom, k.tb⟩, ⟨fun _ _ => rfl, fun b u n _ z => ⟨z, fun y => n (nn b y)⟩⟩, rp⟩
  · by_cases hj : j = i
    · subst hj
      rw [List.getElem?_set_self hi] at z
      cases z
      exact ⟨_, ep, rp⟩
    · rw [List.getElem?_set_ne (Ne.symm hj)] at z
      obtain ⟨v, e1, r⟩ := k.sh j d z
      exact ⟨v, e1, Rp.mono l _ _ r⟩
  · by_cases hj : j = i
    · subst hj
      rw [List.getElem?_set_self hi] at z
      cases z
    · rw [List.getElem?_set_ne (Ne.symm hj)] at z
      obtain ⟨v, e1, r⟩ := k.ow j u z
      exact ⟨v, e1, r.mono rfl l⟩
  · by_cases hj : j = i
    · subst hj
      rw [List.getElem?_set_self hi] at z
      cases z
    · by_cases hj' : j' = i
      · subst hj'
        rw [List.getElem?_set_self hi] at z'
        cases z'
      · rw [List.getElem?_set_ne (Ne.symm hj)] at z
        rw [List.getElem?_set_ne (Ne.symm hj')] at z'
        exact k.inj j j' u u' b z z' y y'
/-- what is given by a rule that makes at most one object -/
def Give (K : PySem.W.Frag) (N : NS) (H : Hp) (r : Sl) (Q : VK) : Prop := match r with
  | .un => False
  | .sh d => (∀ v, Rp K (Hid N H) v d → Q v H) ∧ ∀ p o, H p = none → Rp K (Hid N (upd H p o)) (.ref p) d → Q (.ref p) (upd H p o)
  | .ow o => ∀ p u, H p = none → OwAt K (Ad N p) (upd H p u) p o → Q (.ref p) (upd H p u)
theorem nn_ad {p : Addr} : Nn (Ad F p) s σ = Ad (Nn F s σ) p := by
  funext b
  apply propext
  constructor
  · rintro ((z | z) | z)
    · exact .inl (.inl z)
    · exact .inr z
    · exact .inl (.inr z)
  · rintro ((z | z) | z)
    · exact .inl (.inl z)
    · exact .inr z
    · exact .inl (.inr z)
theorem give_of (k : StOk K F s σ H) {r : Sl} (h : ∀ v H', AftS K F s σ H r s v H' → Q v H') (hu : r ≠ .un) : Give K (Nn F s σ) H r Q := by
  cases r with
  | un => exact hu rfl
  | sh d => exact ⟨fun v q => h v H ⟨k, Fr.refl, q⟩, fun p o n q => h _ _ ⟨k.new n, k.frNew n, q⟩⟩
  | ow o =>
    intro p u n q
    have nc : notCode u := by
      obtain ⟨u', e, z⟩ := q.there'
      rw [upd_same] at e
      cases e
      exact z
    obtain ⟨k1, f1⟩ := k.newOw (o := u) nc n
    refine h _ _ ⟨p, rfl, k1, f1, fun z => k.free n (.inl z), ?_⟩
    rw [nn_ad]
    exact q
/-- an operand as it is read when it is used -/
def Rd_ (K : PySem.W.Frag) (N : NS) (H : Hp) (v : V) (d : D) : Prop := match d with
  | .list ds => ∃ p vs, v = .ref p ∧ RdK K H p vs ∧ RpA K (Hid N H) vs ds
  | .dict kvs => ∃ p, v = .ref p ∧ ((∃ o xs, H p = some (ExO p o) ∧ DOb p o xs ∧ RpE K (Hid N H) xs kvs) ∨ (∃ ks, H p = some (.dK ks) ∧ ks ≠ [] ∧ RpK K (Hid N H) ks kvs))
  | d => Rp K (Hid N H) v d
theorem Rp.rd {v : V} {d : D} (h : Rp K (Hid N H) v d) : Rd_ K N H v d := by
  cases d with
  | list ds =>
    cases h with
    | lst a b => exact ⟨_, _, rfl, hid_le.rdK a, b⟩
  | dict kvs =>
    cases h with
    | dE a c b => exact ⟨_, rfl, .inl ⟨_, _, (hid_iff.mp a).2, c, b⟩⟩
    | dK a n b => exact ⟨_, rfl, .inr ⟨_, (hid_iff.mp a).2, n, b⟩⟩
  | _ => exact h
theorem OwAt.rd {p : Addr} {o : Ob} (h : OwAt K N H p o) : Rd_ K N H (.ref p) o.val := by
  cases o with
  | lst ds => obtain ⟨vs, e, r⟩ := h; exact ⟨p, vs, rfl, .inl (.inl e), r⟩
  | dic kvs => exact ⟨p, rfl, h⟩
theorem Rd_.rp {v : V} {d : D} (h : Rd_ K N H v d) : Rp K H v d := by
  cases d with
  | list ds => obtain ⟨p, vs, rfl, a, b⟩ := h; exact .lst a (RpA.mono hid_le _ _ b)
  | dict kvs =>
    obtain ⟨p, rfl, ⟨o, xs, a, c, b⟩ | ⟨ks, a, n, b⟩⟩ := h
    · exact .dE a c (RpE.mono hid_le _ _ b)
    · exact .dK a n (RpK.mono hid_le _ _ b)
  | _ => exact Rp.mono hid_le _ _ h
/-- an operand at its use -/
theorem AftO.use {x : Op} {v : V} (a : AftO K F s σ H x s1 v H1) {s2 : S} {H2 : Hp} (k : StOk K F s2 σ H2) (f : Fr F (Nn F s1 σ) H1 (Nn F s2 σ) H2) {d : D} {s3 : S} (e : resO x s2 = .ok d s3) : s3 = s2 ∧ Rd_ K (Nn F s2 σ) H2 v d := by
  cases x with
  | d d' =>
    have e : R.ok d' s2 = .ok d s3 := e
    cases e
    exact ⟨rfl, (Rp.mono f.le _ _ (AftD.rp a)).rd⟩
  | v i =>
    obtain ⟨rfl, rfl, hv, o, ho⟩ := a
    have e : resV i s2 = .ok d s3 := e
    unfold resV at e
    split at e
    · rename_i o' q
      cases e
      obtain ⟨p, e1, z⟩ := k.ow i o' q
      rw [hv] at e1
      cases e1
      exact ⟨rfl, z.rd⟩
    · rename_i d' q
      cases e
      obtain ⟨v', e1, z⟩ := k.sh i d q
      rw [hv] at e1
      cases e1
      exact ⟨rfl, z.rd⟩
    · cases e
theorem AftO.ok {x : Op} {v : V} (k : StOk K F s σ H) (a : AftO K F s σ H x s1 v H1) : StOk K F s1 σ H1 ∧ Fr F (Nn F s σ) H (Nn F s1 σ) H1 := by
  cases x with
  | d d' => exact ⟨AftD.ok a, AftD.fr a⟩
  | v i =>
    obtain ⟨rfl, rfl, _⟩ := a
    exact ⟨k, Fr.refl⟩
/-- no error comes out of reading an operand -/
theorem Wp.res {α : Type} {x : Op} {f : D → M α} {Φ : α → S → Prop} (h : Wp K EC W F s σ H (((resO x).bind f) s1) Φ) : ∃ d, resO x s1 = .ok d s1 ∧ Wp K EC W F s σ H (f d s1) Φ := by
  have h := h.bind
  cases x with
  | d d' => exact ⟨d', rfl, h⟩
  | v i =>
    have e : resO (.v i) s1 = (match s1[i]? with
      | some (.ow o) => .ok o.val s1
      | some (.sh d) => .ok d s1
      | _ => .bad) := rfl
    rw [e] at h
    cases q : s1[i]? with
    | none => rw [q] at h; exact h.elim
    | some z =>
      rw [q] at h
      cases z with
      | un => exact h.elim
      | sh d => exact ⟨d, by rw [e, q], h⟩
      | ow o => exact ⟨o.val, by rw [e, q], h⟩
end

/-! ### from one form to another -/
section
variable {X : Cx} {EC : Nat → Addr} {W : WX} {e : Expr} {m : M Sl}
theorem pe_frz (h : PE X e (tE X.K EC W m)) : PE X e (tD X.K EC W (frz m)) := peW h fun σ H Q ⟨F, s, k, w⟩ => ⟨F, s, k, w.bind.mono fun r s1 q v H' a => by
  obtain ⟨d, e, q⟩ := q.lift
  exact q v H' (a.data e)⟩
theorem peO_of (h : PE X e (tE X.K EC W m)) : PE X e (tO X.K EC W ((frz m).bind fun d => M.pure (.d d))) := peW (pe_frz h) fun σ H Q ⟨F, s, k, w⟩ => ⟨F, s, k, w.bind.mono fun r s1 q v H' a => q v H' a⟩
theorem peO_var {i : Nat} {x : Str} {pos : Pos} (h : PE X (.Name x pos) (tVar i)) : PE X (.Name x pos) (tO X.K EC W (opnd (.var i) m)) := peW h fun σ H Q ⟨F, s, k, w⟩ => by
  have w : Wp X.K EC W F s σ H (match s[i]? with
    | some (.ow _) => R.ok (Op.v i) s
    | some (.sh d) => R.ok (Op.d d) s
    | _ => R.bad) _ := w
  cases q : s[i]? with
  | none => rw [q] at w; exact w.elim
  | some z =>
    rw [q] at w
    cases z with
    | un => exact w.elim
    | sh d =>
      obtain ⟨v, e1, a⟩ := k.get q
      exact ⟨v, e1, w v H a⟩
    | ow o =>
      obtain ⟨p, e1, a⟩ := k.ow i o q
      exact ⟨_, e1, w _ H ⟨rfl, rfl, e1, o, q⟩⟩
theorem peE_var {i : Nat} {x : Str} {pos : Pos} (h : PE X (.Name x pos) (tVar i)) : PE X (.Name x pos) (tE X.K EC W (varM i)) := peW h fun σ H Q ⟨F, s, k, w⟩ => by
  have w : Wp X.K EC W F s σ H (match s[i]? with
    | some (.sh d) => R.ok (Sl.sh d) s
    | some (.ow o) => R.ok (Sl.sh o.val) (s.set i (.sh o.val))
    | _ => R.bad) _ := w
  cases q : s[i]? with
  | none => rw [q] at w; exact w.elim
  | some z =>
    rw [q] at w
    cases z with
    | un => exact w.elim
    | sh d =>
      obtain ⟨v, e1, a⟩ := k.get q
      exact ⟨v, e1, w v H a⟩
    | ow o =>
      obtain ⟨p, e1, a⟩ := k.ow i o q
      exact ⟨_, e1, w _ H (k.share q e1)⟩
/-- a constant -/
theorem pe_con {v : V} {d : D} (h : PE X e (tC v)) (r : ∀ H, Rp X.K H v d) : PE X e (tE X.K EC W (M.pure (.sh d))) := peW h fun σ H Q ⟨F, s, k, w⟩ =>
  have w : ∀ v H', AftS X.K F s σ H (.sh d) s v H' → Q v H' := w
  w v H ⟨k, Fr.refl, r _⟩
end
end Hg
set_option Elab.async false
set_option linter.all false
set_option maxRecDepth 100000
set_option maxHeartbeats 400000
/-! Dicts whose keys are tuples of whole numbers: the objects. -/
namespace Hg
open PySem PySem.Spec PyProof.Rows L2
/-! ### tables by whole numbers -/
theorem lkT_cons {p : List Int × D} {m : Tb2} {k : List Int} : lkT (p :: m) k = if p.1 = k then some p.2 else lkT m k := by
  unfold lkT
  rw [List.find?_cons]
  by_cases e : p.1 = k
  · rw [if_pos e, decide_eq_true e]
    rfl
  · rw [if_neg e, decide_eq_false e]
/-- entries and what they bear -/
inductive RpM (K : PySem.W.Frag) (H : Hp) : Xs → Tb2 → Prop
  | nil : RpM K H [] []
  | cons {k : List Int} {b : Addr} {u : Value} {v : V} {xs : Xs} {d : D} {m : Tb2} : SqT K H b (k.map V.int) → RelV v u → Rp K H v d → RpM K H xs m → RpM K H ((k, b, u) :: xs) ((k, d) :: m)
theorem intsD_map : ∀ k : List Int, intsD (k.map PyData.int) = some k
  | [] => rfl
  | a :: r => by
    show (intsD (r.map PyData.int)).map (a :: ·) = _
    rw [intsD_map r] <;> rfl
theorem tkD_key (k : List Int) : tkD (keyT k) = some k := intsD_map k
theorem intsD_eq : ∀ {ds : List D} {k : List Int}, intsD ds = some k → ds = k.map PyData.int
  | [], k, e => by cases (show some [] = some k from e); rfl
  | d :: ds, k, e => by
    cases d with
    | int i =>
      have e : (intsD ds).map (i :: ·) = some k := e
      obtain ⟨q, e1, rfl⟩ := Option.map_eq_some_iff.mp e
      rw [intsD_eq e1] <;> rfl
    | _ => cases e
theorem tkD_eq {d : D} {k : List Int} (e : tkD d = some k) : d = keyT k := by
  cases d with
  | tuple ds => exact congrArg PyData.tuple (intsD_eq e)
  | _ => cases e
theorem ktD_un : ∀ m : Tb2, ktD (unT m) = some m
  | [] => rfl
  | (k, v) :: m => by
    show (match tkD (keyT k), ktD (unT m) with
      | some ns, some q => some ((ns, v) :: q)
      | _, _ => none) = _
    rw [tkD_key, ktD_un m]
theorem ktD_eq : ∀ {kvs : List (D × D)} {m : Tb2}, ktD kvs = some m → kvs = unT m
  | [], m, e => by cases (show some [] = some m from e); rfl
  | (k, v) :: r, m, e => by
    have e : (match tkD k, ktD r with
      | some ns, some q => some ((ns, v) :: q)
      | _, _ => none) = some m := e
    cases h1 : tkD k with
    | none => rw [h1] at e; cases e
    | some ns =>
      cases h2 : ktD r with
      | none => rw [h1, h2] at e; cases e
      | some q =>
        rw [h1, h2] at e
        cases e
        rw [tkD_eq h1, ktD_eq h2] <;> rfl
section
variable {K : PySem.W.Frag} {N : NS} {H H' : Hp}
theorem RpM.len : ∀ {xs : Xs} {m : Tb2}, RpM K H xs m → xs.length = m.length
  | _, _, .nil => rfl
  | _, _, .cons _ _ _ t => congrArg Nat.succ t.len
theorem RpM.toE : ∀ {xs : Xs} {m : Tb2}, RpM K H xs m → RpE K H xs (unT m)
  | _, _, .nil => .nil
  | _, _, .cons a b c t => .cons a b c t.toE
theorem RpE.toM : ∀ {xs : Xs} {kvs : List (D × D)} {m : Tb2}, RpE K H xs kvs → ktD kvs = some m → RpM K H xs m
  | _, _, m, .nil, e => by cases (show some [] = some m from e); exact .nil
  | _, _, m, .cons (k := k) (d := d) (ds := ds) a b c t, e => by
    have e : (match tkD (keyT k), ktD ds with
      | some ns, some q => some ((ns, d) :: q)
      | _, _ => none) = some m := e
    rw [tkD_key] at e
    cases h2 : ktD ds with
    | none => rw [h2] at e; cases e
    | some q =>
      rw [h2] at e
      cases e
      exact .cons a b c (t.toM h2)
theorem RpE.kt : ∀ {xs : Xs} {kvs : List (D × D)}, RpE K H xs kvs → ∃ m, ktD kvs = some m
  | _, _, .nil => ⟨[], rfl⟩
  | _, _, .cons (k := k) (d := d) (ds := ds) _ _ _ t => by
    obtain ⟨m, e⟩ := t.kt
    refine ⟨(k, d) :: m, ?_⟩
    show (match tkD (keyT k), ktD ds with
      | some ns, some q => some ((ns, d) :: q)
      | _, _ => none) = _
    rw [tkD_key, e]
theorem RpM.mono (l : Le H H') : ∀ {xs : Xs} {m : Tb2}, RpM K H xs m → RpM K H' xs m
  | _, _, .nil => .nil
  | _, _, .cons a b c t => .cons (l.sqT a) b (Rp.mono l _ _ c) (t.mono l)
theorem RpM.look : ∀ {xs : Xs} {m : Tb2} (k : List Int), RpM K H xs m → (match lkT m k with
    | some d => ∃ (p : Addr × Value) (v : V), atKey xs k = some p ∧ RelV v p.2 ∧ Rp K H v d
    | none => atKey xs k = none)
  | _, _, k, .nil => rfl
  | _, _, k, .cons (k := j) (b := b) (u := u) (v := v) (xs := xs) (d := d) (m := m) a r c t => by
    have ih := t.look k
    rw [lkT_cons]
    by_cases e : j = k
    · rw [if_pos e]
      exact ⟨(b, u), v, by simp [atKey, List.find?_cons, e], r, c⟩
    · rw [if_neg e]
      have z : atKey ((j, b, u) :: xs) k = atKey xs k := by simp [atKey, List.find?_cons, e]
      rw [z]
      exact ih
theorem RpM.is (r : RpM K H xs m) (k : List Int) : (atKey xs k).isSome = (lkT m k).isSome := by
  have z := r.look k
  cases e : lkT m k with
  | none => rw [e] at z; rw [show atKey xs k = none from z] <;> rfl
  | some d =>
    rw [e] at z
    obtain ⟨p, v, h, _⟩ := z
    rw [h] <;> rfl
theorem RpM.snoc : ∀ {xs : Xs} {m : Tb2}, RpM K H xs m → ∀ {k : List Int} {b : Addr} {u : Value} {v : V} {d : D}, SqT K H b (k.map V.int) → RelV v u → Rp K H v d → RpM K H (xs ++ [(k, b, u)]) (m ++ [(k, d)])
  | _, _, .nil, _, _, _, _, _, a, b, c => .cons a b c .nil
  | _, _, .cons a b c t, _, _, _, _, _, a', b', c' => .cons a b c (t.snoc a' b' c')
theorem RpM.repl {k : List Int} {u : Value} {v : V} {d : D} (ru : RelV v u) (rd : Rp K H v d) : ∀ {xs : Xs} {m : Tb2}, RpM K H xs m → RpM K H (xs.map (putAt k u)) (m.map fun p => if p.1 = k then (p.1, d) else p)
  | _, _, .nil => .nil
  | _, _, .cons (k := j) (b := b) (u := w) (d := e) a r c t => by
    rw [List.map_cons, List.map_cons]
    unfold putAt
    by_cases q : j = k
    · rw [if_pos q, if_pos q]
      exact .cons a ru rd (t.repl ru rd)
    · rw [if_neg q, if_neg q]
      exact .cons a r c (t.repl ru rd)
theorem RpM.put {xs : Xs} {m : Tb2} (r : RpM K H xs m) {k : List Int} {b : Addr} {u : Value} {v : V} {d : D} (sq : SqT K H b (k.map V.int)) (ru : RelV v u) (rd : Rp K H v d) : RpM K H (storedH xs k b u) (ptT m k d) := by
  unfold storedH ptT
  rw [r.is k]
  by_cases q : (lkT m k).isSome = true
  · rw [if_pos q, if_pos q]
    exact r.repl ru rd
  · rw [if_neg q, if_neg q]
    exact r.snoc sq ru rd
theorem RpM.putAll : ∀ {ps : Xs} {q : Tb2}, RpM K H ps q → ∀ {xs : Xs} {m : Tb2}, RpM K H xs m → RpM K H (storedAllH xs ps) (mkT m q)
  | _, _, .nil, _, _, r => r
  | _, _, .cons a b c t, _, _, r => t.putAll (r.put a b c)
theorem RpM.ats : ∀ {xs : Xs} {m : Tb2}, RpM K H xs m → ∀ x ∈ xs, SqT K H x.2.1 (x.1.map V.int)
  | _, _, .nil, x, h => nomatch h
  | _, _, .cons a _ _ t, x, h => by
    rcases List.mem_cons.mp h with e | h
    · rw [e]
      exact a
    · exact t.ats x h
theorem RpM.keys : ∀ {xs : Xs} {m : Tb2}, RpM K H xs m → xs.map (·.1) = m.map (·.1)
  | _, _, .nil => rfl
  | _, _, .cons _ _ _ t => by rw [List.map_cons, List.map_cons, t.keys]
theorem RpM.get : ∀ {xs : Xs} {m : Tb2}, RpM K H xs m → ∀ {i : Nat} {k : List Int} {d : D}, m[i]? = some (k, d) → ∃ b u v, xs[i]? = some (k, b, u) ∧ SqT K H b (k.map V.int) ∧ RelV v u ∧ Rp K H v d
  | _, _, .nil, i, k, d, e => by simp at e
  | _, _, .cons a b c t, 0, k, d, e => by
    simp at e
    obtain ⟨rfl, rfl⟩ := e
    exact ⟨_, _, _, rfl, a, b, c⟩
  | _, _, .cons a b c t, i + 1, k, d, e => by
    obtain ⟨b', u, v, h1, h2⟩ := t.get (i := i) (by simpa using e)
    exact ⟨b', u, v, by simpa using h1, h2⟩
/-- a key as data -/
theorem rpa_int : ∀ k : List Int, RpA K H (k.map V.int) (k.map PyData.int)
  | [] => .nil
  | a :: r => .cons (.int a) (rpa_int r)
theorem Rp.keyT {b : Addr} {k : List Int} (h : SqT K H b (k.map V.int)) : Rp K H (.ref b) (keyT k) := .tup h (rpa_int k)
theorem Rd_.key {v : V} {d : D} {k : List Int} (h : Rd_ K N H v d) (e : tkD d = some k) : ∃ b, v = .ref b ∧ SqT K (Hid N H) b (k.map V.int) := by
  cases tkD_eq e
  have h : Rp K (Hid N H) v (.tuple (k.map .int)) := h
  cases h with
  | tup a r =>
    cases r.ints (intsD_map k)
    exact ⟨_, rfl, a⟩
theorem Rd_.dct {v : V} {kvs : List (D × D)} {m : Tb2} (h : Rd_ K N H v (.dict kvs)) (e : ktD kvs = some m) : ∃ p o xs, v = .ref p ∧ H p = some (ExO p o) ∧ DOb p o xs ∧ RpM K (Hid N H) xs m := by
  obtain ⟨p, rfl, ⟨o, xs, h1, h2, h3⟩ | ⟨ks, h1, h2, h3⟩⟩ := h
  · exact ⟨p, o, xs, rfl, h1, h2, h3.toM e⟩
  · cases h3 with
    | nil => exact (h2 rfl).elim
    | @cons k _ _ _ ds _ _ =>
      have e : (match tkD (keyD k), ktD ds with
        | some ns, some q => some ((ns, _) :: q)
        | _, _ => none) = some m := e
      cases k <;> cases e
end
/-! ### in the heap -/
abbrev KI (X : Cx) : HeapKind X.prog X.w (List Int) := tupleKind (intKind X.prog X.w)
theorem ent_is {X : Cx} (x : List Int × Addr × Value) : entryOfKey (KI X) x = entO x := rfl
theorem ents_are {X : Cx} (xs : Xs) : xs.map (entryOfKey (KI X)) = xs.map entO := rfl
theorem isInt_of {i : Int} {u : Value} (h : RelV (.int i) u) : Value.isInt i u = true := by
  obtain ⟨t, rfl⟩ := h
  simp [Value.isInt]
theorem ints_are {P : Program} {w : World} : ∀ {k : List Int} {us : List Value}, Vals (k.map V.int) us → ItemsAre (intKind P w) k us
  | [], _, r => by rw [List.map_nil] at r; cases r; exact .nil
  | i :: k, _, r => by
    rw [List.map_cons] at r
    cases r with
    | cons h t => exact .cons (isInt_of h) (ints_are t)
section
variable {X : Cx} {pins : List (Addr × Obj)} {σ : L2.St} {H : Hp} {s : Shared} {N : NS} {A : Around} {E : Value → Shared → Prop}
theorem tkey (I : Inv X pins σ H s) {b : Addr} {k : List Int} (h : SqT X.K H b (k.map V.int)) : (KI X).is s.heap k b := by
  obtain ⟨its, r, ⟨o, ho, hc, n, hd⟩, _⟩ := I.tuple h
  exact ⟨o, its.toArray, n, ho, hc, hd, by simpa using ints_are r⟩
theorem dctH (I : Inv X pins σ H s) {p : Addr} {o : Obj} {xs : Xs} {m : Tb2} (hp : H p = some (ExO p o)) (d : DOb p o xs) (r : RpM X.K (Hid N H) xs m) : s.heap.DictOfH (KI X) p xs := by
  obtain ⟨es, ep, h1, h2⟩ := d.dat
  refine ⟨o, es, ep, (I.hok p _ hp).1, d.ex, h1, h2, fun x hx => ?_, d.nd⟩
  exact tkey I (hid_le.sqT (r.ats x hx))
theorem dctO {h : Heap} {p : Addr} {xs : Xs} (d : h.DictOfH (KI X) p xs) (hl : xs.length ≤ sizeLine) (hs : (p == sysModules) = false) : ∃ o, h.get? p = some o ∧ DOb p o xs := by
  obtain ⟨o, es, ep, h1, h2, h3, h4, _, h5⟩ := d
  exact ⟨o, h1, h2, ⟨es, ep, h3, h4⟩, h5, hl, hs⟩
theorem exo_ok {P : Program} {w : World} {h : Heap} {p : Addr} {o : Obj} (e : h.get? p = some o) : ObjOk P w H h p (ExO p o) := ⟨e, ⟨o, e⟩, fun h1 h2 a b => b _ a⟩
theorem storedH_le (xs : Xs) (k : List Int) (b : Addr) (u : Value) : (storedH xs k b u).length ≤ xs.length + 1 := by
  unfold storedH
  split
  · rw [List.length_map]; omega
  · rw [List.length_append, List.length_cons, List.length_nil]; omega
theorem storedAllH_le : ∀ (ps xs : Xs), (storedAllH xs ps).length ≤ xs.length + ps.length
  | [], xs => Nat.le_refl _
  | p :: ps, xs => by
    have h1 := storedAllH_le ps (storedH xs p.1 p.2.1 p.2.2)
    have h2 := storedH_le xs p.1 p.2.1 p.2.2
    show (storedAllH (storedH xs p.1 p.2.1 p.2.2) ps).length ≤ _
    rw [List.length_cons]
    omega
theorem get_D (hu : A.units + 1 < cLine) (I : Inv X pins σ H s) {p b : Addr} {o : Obj} {xs : Xs} {m : Tb2} {k : List Int} {d : D} {Q : Value → Shared → Prop} (hp : H p = some (ExO p o)) (dd : DOb p o xs) (r : RpM X.K (Hid N H) xs m) (sq : SqT X.K H b (k.map V.int)) (e : lkT m k = some d)
    (h : ∀ (u : Value) (v : V) (s' : Shared), Inv X pins σ H s' → RelV v u → Rp X.K (Hid N H) v d → Q u s') : wpAny (model X.prog X.w) A (getItem (.ref p) (.ref b)) Q E s := by
  have l := r.look k
  rw [e] at l
  obtain ⟨q, v, h1, h2, h3⟩ := l
  exact wpAny_getItem_heap (knd := KI X) (show A.units + 1 < cLine from hu) (tkey I sq) (dctH I hp dd r) h1 (h _ v _ (I.tok _) h2 h3)
theorem in_D (hu : A.units + 1 < cLine) (I : Inv X pins σ H s) {p b : Addr} {o : Obj} {xs : Xs} {m : Tb2} {k : List Int} {Q : Value → Shared → Prop} (hp : H p = some (ExO p o)) (dd : DOb p o xs) (r : RpM X.K (Hid N H) xs m) (sq : SqT X.K H b (k.map V.int))
    (h : ∀ s', Inv X pins σ H s' → Q (.bool (lkT m k).isSome) s') : wpAny (model X.prog X.w) A (compareOp .In (.ref b) (.ref p)) Q E s := by
  refine wpAny_in_heap (knd := KI X) (show A.units + 1 < cLine from hu) (tkey I sq) dd.sys (dctH I hp dd r) ?_
  rw [r.is k]
  exact h _ (I.tok _)
theorem notIn_D (hu : A.units + 1 < cLine) (I : Inv X pins σ H s) {p b : Addr} {o : Obj} {xs : Xs} {m : Tb2} {k : List Int} {Q : Value → Shared → Prop} (hp : H p = some (ExO p o)) (dd : DOb p o xs) (r : RpM X.K (Hid N H) xs m) (sq : SqT X.K H b (k.map V.int))
    (h : ∀ s', Inv X pins σ H s' → Q (.bool (!(lkT m k).isSome)) s') : wpAny (model X.prog X.w) A (compareOp .NotIn (.ref b) (.ref p)) Q E s := by
  show wpAny _ _ (do return .bool (!(← contains (.ref p) (.ref b)))) Q E s
  refine wpAny_bind (wpAny_contains_heap (knd := KI X) (show A.units + 1 < cLine from hu) (tkey I sq) dd.sys (dctH I hp dd r) (wpAny_pure ?_))
  rw [r.is k]
  exact h _ (I.tok _)
theorem getD_D (hu : A.units + 1 < cLine) (I : Inv X pins σ H s) {p b : Addr} {o : Obj} {xs : Xs} {m : Tb2} {k : List Int} {x : V} {f : Value} {d : D} {Q : Value → Shared → Prop} (hp : H p = some (ExO p o)) (dd : DOb p o xs) (r : RpM X.K (Hid N H) xs m) (sq : SqT X.K H b (k.map V.int)) (rf : RelV x f) (rx : Rp X.K (Hid N H) x d)
    (h : ∀ (u : Value) (v : V) (s' : Shared), Inv X pins σ H s' → RelV v u → Rp X.K (Hid N H) v ((lkT m k).getD d) → Q u s') : wpAny (model X.prog X.w) A (call (.builtin "dict.get") [.ref p, .ref b, f]) Q E s := by
  have l := r.look k
  have D := dctH I hp dd r
  refine call_meetsIn F.slot_dict_get D.typeIs F.entry_dict_get (F.args_dict_get_3 _ _ _) (meetsH_dict_get_default (KI X) p b dd.sys f) ⟨(show A.units + 1 < cLine from hu), k, xs, tkey I sq, D, ?_⟩
  cases e : lkT m k with
  | none =>
    rw [e] at l h
    rw [show atKey xs k = none from l]
    exact h f x _ (I.tok _) rf rx
  | some c =>
    rw [e] at l h
    obtain ⟨q, v, h1, h2, h3⟩ := l
    rw [h1]
    exact h q.2 v _ (I.tok _) h2 h3
theorem set_D (hu : A.units + 1 < cLine) (I : Inv X pins σ H s) {p b : Addr} {o : Obj} {xs : Xs} {m : Tb2} {k : List Int} {v : V} {u : Value} {Q : Unit → Shared → Prop} (hp : H p = some (ExO p o)) (dd : DOb p o xs) (r : RpM X.K (Hid N H) xs m) (sq : SqT X.K H b (k.map V.int)) (hl : xs.length < sizeLine)
    (h : ∀ o' s', Inv X pins σ (upd H p (ExO p o')) s' → DOb p o' (storedH xs k b u) → Q () s') : wpAny (model X.prog X.w) A (setItem (.ref p) (.ref b) u) Q E s := by
  refine wpAny_setItem_heap (knd := KI X) (hsz := Nat.le_of_lt hl) (show A.units + 1 < cLine from hu) (tkey I sq) (dctH I hp dd r) fun h' d' hs => ?_
  obtain ⟨o', ho, d2⟩ := dctO d' (Nat.le_trans (storedH_le xs k b u) hl) dd.sys
  exact h o' _ (d_write I (by rw [hp]; exact True.intro) hs ⟨o', ho⟩ (exo_ok ho)) d2
theorem len_D (I : Inv X pins σ H s) {p : Addr} {o : Obj} {xs : Xs} {m : Tb2} {Q : Value → Shared → Prop} (hp : H p = some (ExO p o)) (dd : DOb p o xs) (r : RpM X.K (Hid N H) xs m)
    (h : ∀ t s', Inv X pins σ H s' → Q (.int (m.length : Nat) t) s') : wpAny (model X.prog X.w) A (call (.builtin "len") [.ref p]) Q E s := by
  have D := dctH I hp dd r
  have hl := dd.len
  have hk : s.heap.DictKeyed (KI X) p (pairsH xs) := ⟨xs, D, rfl⟩
  have el : ((m.length : Nat) : Int) = (xs.length : Int) := by rw [r.len]
  rw [el] at h
  refine PyProof.Rows.call_len_slot (n := (xs.length : Int)) D.typeIs F.slot_dict_len (fun Q' hq => len_keyed dd.sys hk (by rw [pairsH_length]; exact hq)) (by omega) (by rw [sizeLine_eq] at hl; omega) (h _ _ ((I.tok _).tok _))
end
end Hg
set_option Elab.async false
set_option linter.all false
set_option maxRecDepth 100000
set_option maxHeartbeats 400000
/-! Dicts whose keys are tuples of whole numbers: looked at whole, made anew. -/
namespace Hg
open PySem PySem.Spec PyProof.Rows L2
section
variable {prog : Program} {w : World} {A : Around} {E : Value → Shared → Prop} {s : Shared}
abbrev KJ (prog : Program) (w : World) : HeapKind prog w (List Int) := tupleKind (intKind prog w)
inductive HitsD (prog : Program) (w : World) (A : Around) (s : Shared) (ys : Xs) : Xs → Bool → Prop
  | nil : HitsD prog w A s ys [] true
  | miss {k : List Int} {b : Addr} {v : Value} {r : Xs} : atKey ys k = none → HitsD prog w A s ys ((k, b, v) :: r) false
  | stop {k : List Int} {b : Addr} {v : Value} {r : Xs} {p : Addr × Value} : atKey ys k = some p → SeqAt.EqP prog w A s v p.2 false → HitsD prog w A s ys ((k, b, v) :: r) false
  | hit {k : List Int} {b : Addr} {v : Value} {r : Xs} {p : Addr × Value} {e c : Bool} : atKey ys k = some p → SeqAt.EqP prog w A s v p.2 e → HitsD prog w A s ys r c → HitsD prog w A s ys ((k, b, v) :: r) (e && c)
theorem HitsD.inv {ys : Xs} {k : List Int} {b : Addr} {v : Value} {r : Xs} {c : Bool} (h : HitsD prog w A s ys ((k, b, v) :: r) c) :
    (atKey ys k = none ∧ c = false) ∨ ∃ p e, atKey ys k = some p ∧ SeqAt.EqP prog w A s v p.2 e ∧ (e = true → HitsD prog w A s ys r c) ∧ (e = false → c = false) := by
  cases h with
  | miss hn => exact .inl ⟨hn, rfl⟩
  | stop hy he => exact .inr ⟨_, _, hy, he, (fun z => nomatch z), fun _ => rfl⟩
  | @hit _ _ _ _ _ e c' hy he hr => exact .inr ⟨_, e, hy, he, fun z => by rw [z, Bool.true_and]; exact hr, fun z => by rw [z, Bool.false_and]⟩
theorem sameD {nm : String} {a b : Addr} {xs ys : Xs} {r : Bool} {Q : Bool → Shared → Prop} (hu : A.units < cLine) (ha : (a == sysModules) = false) (hb : (b == sysModules) = false)
    (da : s.heap.DictOfH (KJ prog w) a xs) (db : s.heap.DictOfH (KJ prog w) b ys) (hits : xs.length = ys.length → HitsD prog w A s ys xs r) (h : Q (xs.length == ys.length && r) s) :
    wpAny (model prog w) A (Builtin.Dict.samePairs nm a b) Q E s := by
  obtain ⟨oa, es, ep, hoa, _, hda, hea, hia, _⟩ := da
  obtain ⟨ob, es', ep', hob, _, hdb, heb, hib, hnb⟩ := db
  have hla : xs.length = es.size := (size_of_entries hea).symm
  have hlb : ys.length = es'.size := (size_of_entries heb).symm
  rw [hla, hlb] at h
  unfold Builtin.Dict.samePairs Builtin.Dict.showsAll
  rw [if_neg (show ¬ (a == sysModules) = true by rw [ha]; exact Bool.false_ne_true), if_neg (show ¬ (b == sysModules) = true by rw [hb]; exact Bool.false_ne_true)]
  refine wpAny_bind (wpAny_pure (wpAny_bind (wpAny_pure ?_)))
  refine wpAny_bind (wpAny_dictEntries hoa hda ?_)
  dsimp only
  refine wpAny_bind (wpAny_dictEntries hob hdb ?_)
  by_cases hsz : es.size = es'.size
  case neg =>
    rw [if_pos (by simpa using hsz)]
    have hbf : (es.size == es'.size) = false := by simpa using hsz
    rw [hbf, Bool.false_and] at h
    exact wpAny_bind (wpAny_rule (wpAny_pure h))
  case pos =>
    have h' : Q r s := by simpa [hsz] using h
    have hits' := hits (by rw [hla, hlb]; exact hsz)
    rw [if_neg (by rw [hsz]; simp)]
    refine wpAny_bind (wpAny_dictEpoch hoa hda ?_)
    refine wpAny_bind ?_
    rw [Std.Legacy.Range.forIn_eq_forIn_range']
    simp only [Std.Legacy.Range.size, Nat.sub_zero, Nat.add_sub_cancel, Nat.div_one]
    refine wpAny_forIn_list _
      (fun rest q s' => s' = s ∧ q = (none, ()) ∧ ∃ i, rest = List.range' i (es.size - i) ∧ i ≤ es.size ∧ HitsD prog w A s ys (xs.drop i) r)
      _ ?_ ?_ _ _ ⟨rfl, rfl, 0, by simp, Nat.zero_le _, hits'⟩
    · rintro x rest q s' ⟨rfl, rfl, i, hr, hi, hpre⟩
      have hlt : i < es.size := by
        rcases Nat.lt_or_ge i es.size with h | h
        · exact h
        · rw [Nat.sub_eq_zero_of_le h] at hr; simp at hr
      obtain ⟨rfl, hrest⟩ : x = i ∧ rest = List.range' (i + 1) (es.size - (i + 1)) := by
        have e : es.size - i = (es.size - (i + 1)) + 1 := by omega
        rw [e, List.range'_succ] at hr
        injection hr with h1 h2
        exact ⟨h1, h2⟩
      refine wpAny_bind (wpAny_dictEntries hoa hda ?_)
      have hlt' : x < xs.length := by rw [hla]; exact hlt
      obtain ⟨k, kb, v, hkv⟩ : ∃ k kb v, xs[x] = (k, kb, v) := ⟨_, _, _, rfl⟩
      have hx : xs[x]? = some (k, kb, v) := by rw [List.getElem?_eq_getElem hlt', hkv]
      have ee : es[x]? = some (entryOfKey (KJ prog w) (k, kb, v)) := by rw [entry_at hea x, hx] <;> rfl
      have hdrop : xs.drop x = (k, kb, v) :: xs.drop (x + 1) := by rw [← hkv]; exact List.drop_eq_getElem_cons hlt'
      rw [ee]
      rw [hdrop] at hpre
      show wpAny _ _ (holding [Value.ref kb, v] _ >>= _) _ _ _
      have hkey : (KJ prog w).is s'.heap k kb := hia _ (List.mem_of_getElem? hx)
      refine wpAny_bind (wpAny_holding (wpAny_bind (wpAny_dictFind_heap (knd := KJ prog w) hu hkey hob hdb heb hib hnb (fun hnone => ?_) fun j p hj => ?_)))
      · have hn : atKey ys k = none := atKey_none_of_get hnone
        rcases hpre.inv with ⟨_, er⟩ | ⟨y, _, hy, _⟩
        · rw [er] at h'
          refine wpAny_pure ?_
          show wpAny _ _ (if (!false) = true then _ else _) _ _ _
          rw [if_pos (by decide)]
          exact wpAny_pure (wpAny_pure h')
        · rw [hn] at hy; exact nomatch hy
      · have hv' : atKey ys k = some p := atKey_of_get hnb hj
        refine wpAny_bind (wpAny_dictEntries hob hdb ?_)
        have ej : es'[j]? = some (entryOfKey (KJ prog w) (k, p)) := by rw [entry_at heb j, hj] <;> rfl
        rw [ej]
        rcases hpre.inv with ⟨hn, _⟩ | ⟨y, e, hy, he, hrr, er⟩
        · rw [hv'] at hn; exact nomatch hn
        · have ey : p = y := Option.some.inj (hv'.symm.trans hy)
          rw [← ey] at he
          refine wpAny_holding (he _ _ ?_)
          cases e with
          | false =>
            rw [er rfl] at h'
            show wpAny _ _ (if (!false) = true then _ else _) _ _ _
            rw [if_pos (by decide)]
            exact wpAny_pure (wpAny_pure h')
          | true =>
            have hrr := hrr rfl
            show wpAny _ _ (if (!true) = true then _ else _) _ _ _
            rw [if_neg (by decide)]
            refine wpAny_bind (wpAny_dictEpoch hoa hda ?_)
            rw [if_neg (by simp)]
            exact wpAny_pure ⟨rfl, rfl, x + 1, hrest, hlt, hrr⟩
    · rintro q s' ⟨rfl, rfl, i, hr, hi, hpre⟩
      have hin : i = es.size := by
        rcases Nat.lt_or_ge i es.size with h | h
        · have e : es.size - i = (es.size - (i + 1)) + 1 := by omega
          rw [e, List.range'_succ] at hr; exact nomatch hr
        · exact Nat.le_antisymm hi h
      refine wpAny_pure ?_
      rw [hin, ← hla, List.drop_length] at hpre
      cases hpre
      exact h'
theorem eqD_ {a b : Addr} {xs ys : Xs} {r : Bool} {Q : Value → Shared → Prop} (ha : (a == sysModules) = false) (hb : (b == sysModules) = false)
    (da : s.heap.DictOfH (KJ prog w) a xs) (db : s.heap.DictOfH (KJ prog w) b ys) (hu : A.units + 1 < cLine) (hits : xs.length = ys.length → HitsD prog w A.in1 s ys xs r) (h : Q (.bool (xs.length == ys.length && r)) s) :
    wpAny (model prog w) A (compareOp .Eq (.ref a) (.ref b)) Q E s := by
  refine wpAny_richCompare_same_room (op := .Eq) da.typeIs db.typeIs PySem.F.slot_dict_eq (wpAny_call_entry PySem.F.slot_dict_eq da.typeIs PySem.F.entry_dict_eq ?_ (PySem.F.args_dict_eq_2 _ _)) (Nat.lt_of_succ_lt hu)
  show wpAny _ _ (Builtin.Dict.dictSlotArgs "__eq__" ⟨[.ref a, .ref b], []⟩ >>= _) _ _ s
  refine wpAny_bind ?_
  unfold Builtin.Dict.dictSlotArgs
  refine wpAny_bind (wpAny_notOrdered_dict da.typeIs ?_)
  show wpAny _ _ (pure (Value.ref a, Value.ref b)) _ _ s
  refine wpAny_pure ?_
  refine wpAny_bind (wpAny_isInstance (T := "dict") db.typeIs PySem.F.sub_dict_dict ?_)
  simp only [Bool.not_true, Bool.false_eq_true, if_false]
  refine wpAny_bind (wpAny_pure (wpAny_bind (wpAny_pure ?_)))
  refine wpAny_bind (sameD (A := A.in1) (show A.units + 1 < cLine from hu) ha hb da db hits ?_)
  refine wpAny_pure ⟨_, rfl, ?_, ?_⟩
  · exact fun x => nomatch x
  · simpa using h
theorem neD_ {a b : Addr} {xs ys : Xs} {r : Bool} {Q : Value → Shared → Prop} (ha : (a == sysModules) = false) (hb : (b == sysModules) = false)
    (da : s.heap.DictOfH (KJ prog w) a xs) (db : s.heap.DictOfH (KJ prog w) b ys) (hu : A.units + 1 < cLine) (hits : xs.length = ys.length → HitsD prog w A.in1 s ys xs r) (h : Q (.bool (!(xs.length == ys.length && r))) s) :
    wpAny (model prog w) A (compareOp .NotEq (.ref a) (.ref b)) Q E s := by
  refine wpAny_richCompare_same_room (op := .NotEq) da.typeIs db.typeIs PySem.F.slot_dict_ne (wpAny_call_entry PySem.F.slot_dict_ne da.typeIs PySem.F.entry_dict_ne ?_ (PySem.F.args_dict_ne_2 _ _)) (Nat.lt_of_succ_lt hu)
  show wpAny _ _ (Builtin.Dict.dictSlotArgs "__ne__" ⟨[.ref a, .ref b], []⟩ >>= _) _ _ s
  refine wpAny_bind ?_
  unfold Builtin.Dict.dictSlotArgs
  refine wpAny_bind (wpAny_notOrdered_dict da.typeIs ?_)
  show wpAny _ _ (pure (Value.ref a, Value.ref b)) _ _ s
  refine wpAny_pure ?_
  refine wpAny_bind (wpAny_isInstance (T := "dict") db.typeIs PySem.F.sub_dict_dict ?_)
  simp only [Bool.not_true, Bool.false_eq_true, if_false]
  refine wpAny_bind (wpAny_pure (wpAny_bind (wpAny_pure ?_)))
  refine wpAny_bind (sameD (A := A.in1) (show A.units + 1 < cLine from hu) ha hb da db hits ?_)
  refine wpAny_pure ⟨_, rfl, ?_, ?_⟩
  · exact fun x => nomatch x
  · simpa using h
/-- dict(d): no two keys of one number -/
theorem copyD {o : Addr} {xs : Xs} {Q : Value → Shared → Prop} (hu : A.units + 2 < cLine) (hoS : (o == sysModules) = false) (ho : s.heap.DictOfH (KJ prog w) o xs) (hap : (xs.map fun x => tkh x.1).Nodup) (hsz : xs.length ≤ sizeLine)
    (h : ∀ h' tk, h'.DictOfH (KJ prog w) s.heap.objs.size xs → (∀ b o, s.heap.get? b = some o → h'.get? b = some o) → Q (.ref s.heap.objs.size) { s with heap := h', toks := tk }) :
    wpAny (model prog w) A (call (.type "dict") [.ref o]) Q E s := by
  refine callType_codes (Q₁ := fun obj s₁ => obj = .ref s.heap.objs.size ∧ s₁ = { s with heap := s.heap.push { cls := .type "dict", data := .dict #[] } }) F.kt_called_dict (F.kt_typeCall_dict_1 _) F.entry_dict_init (kt_code_dict_new _ ⟨rfl, rfl⟩) ?_
  rintro obj s₁ ⟨rfl, rfl⟩
  have hnew : (s.heap.push { cls := .type "dict", data := .dict #[] }).DictOfH (KJ prog w) s.heap.objs.size [] := Heap.DictOfH.new s.heap
  have k0 : ∀ b o, s.heap.get? b = some o → (s.heap.push { cls := .type "dict", data := .dict #[] }).get? b = some o := fun b o e => Heap.get?_push_of_some _ e
  have nd : (xs.map (·.1)).Nodup := ho.nodup
  have ho' : (s.heap.push { cls := .type "dict", data := .dict #[] }).DictOfH (KJ prog w) o xs := by
    obtain ⟨oo, es, ep, h1, h2, h3, h4, h5, h6⟩ := ho
    exact ⟨oo, es, ep, k0 _ _ h1, h2, h3, h4, fun x hx => tupleKind_stays.stays (fun b o _ _ e _ => k0 b o e) (h5 x hx), h6⟩
  have hdo : s.heap.objs.size ≠ o := by
    obtain ⟨_, _, _, hg, _⟩ := ho
    exact fun e => absurd (Heap.lt_size hg) (by rw [e]; exact Nat.lt_irrefl _)
  refine ⟨hnew.typeIs, F.args_dict_init_2 _ _, ?_⟩
  unfold Builtin.«dict.__init__»
  refine wpAny_bind ?_
  unfold Builtin.Dict.selfAndRest
  refine wpAny_bind (wpAny_notOrdered_dict hnew.typeIs ?_)
  show wpAny _ _ (pure (s.heap.objs.size, [Value.ref o])) _ _ _
  refine wpAny_pure ?_
  refine updateFrom_dictH (A := A.in1) (knd := KJ prog w) (kvs := []) (more := xs) Value.none (show A.units + 1 + 1 < cLine by omega) hdo hoS hnew ho' (.inr ⟨fun x hx => tupleKind_stays.tuple ((fun ⟨_, _, _, _, _, _, _, his, _⟩ => his x hx : _ → _) ho'), hap⟩) (by simpa using hsz) fun h' d1 d2 hs => ?_
  rw [storedAllH_nil_of_nodup xs nd] at d1
  exact ⟨rfl, h h' _ d1 fun b ob e => (hs.2 b (Nat.ne_of_lt (Heap.lt_size e))).trans (k0 b ob e)⟩
end
end Hg
set_option Elab.async false
set_option linter.all false
set_option maxRecDepth 100000
set_option maxHeartbeats 400000
/-! Dicts whose keys are tuples of whole numbers: out of pairs, the greatest key, sums. -/
namespace Hg
open PySem PySem.Spec PyProof.Rows L2 PyProof.V
open PySem.W (keyToks keyToksAll dataLt alike alikeAll rcGt_alike moved_old argBest_fold reads_keeps)
/-! ### the order of keys -/
theorem lt_int (i j : Int) : itemOrd.blt (.inl i) (.inl j) = decide (i < j) := rfl
theorem lt_toks : ∀ a b : List Int, lexLt itemOrd (keyToksAll (a.map .int)) (keyToksAll (b.map .int)) = ltI a b
  | [], [] => rfl
  | [], b :: q => rfl
  | a :: r, [] => rfl
  | a :: r, b :: q => by
    have ih := lt_toks r q
    show lexLt itemOrd (.inl 1 :: .inl a :: keyToksAll (r.map .int)) (.inl 1 :: .inl b :: keyToksAll (q.map .int)) = if a = b then ltI r q else decide (a < b)
    rw [lex_cons, lex_cons, ih, lt_int, lt_int, lt_int]
    by_cases e : a = b
    · rw [if_pos e, e]
      simp
    · rw [if_neg e]
      rcases Int.lt_or_gt_of_ne e with l | l
      · simp [l]
      · have n : ¬ a < b := by omega
        simp [n, l]
theorem lt_key (a b : List Int) : dataLt (keyT a) (keyT b) = ltI a b := lt_toks a b
theorem alike_ints : ∀ a b : List Int, alikeAll (a.map .int) (b.map .int) = true
  | [], _ => by unfold alikeAll; cases (List.map PyData.int ‹_›) <;> rfl
  | _ :: _, [] => rfl
  | a :: r, b :: q => by
    show (alike (.int a) (.int b) && alikeAll (r.map .int) (q.map .int)) = true
    rw [alike_ints r q] <;> rfl
theorem alike_key (a b : List Int) : alike (keyT a) (keyT b) = true := alike_ints a b
theorem lay_ints : ∀ k : List Int, PyData.canLayAll0 (k.map .int) = true
  | [] => by simp [PyData.canLayAll0]
  | a :: r => by simp [PyData.canLayAll0, PyData.canLay0, lay_ints r]
theorem lay_key (k : List Int) : (keyT k).canLay0 = true := by
  unfold keyT
  simp [PyData.canLay0, lay_ints k]
theorem depth_ints : ∀ k : List Int, PyData.depthAll (k.map .int) ≤ 1
  | [] => by simp [PyData.depthAll]
  | a :: r => by
    have := depth_ints r
    simp only [List.map_cons, PyData.depthAll, PyData.depth]
    omega
section
variable {X : Cx} {pins : List (Addr × Obj)} {σ : L2.St} {H : Hp} {s : Shared} {N : NS} {E : Value → Shared → Prop}
theorem key_reads (I : Inv X pins σ H s) {b : Addr} {k : List Int} (h : SqT X.K H b (k.map V.int)) : ∃ as, Reads s.heap (.ref b) (keyT k) as :=
  Dp.reads I _ _ _ (Rp.dp _ _ (Rp.keyT h) (lay_key k)) rfl
theorem iter_keysW {A : Around} {d : Addr} {es : Array DictEntry} {ep : Nat} {Q : Value → Shared → Prop} {s : Shared} (hh : A.handled = none) (hd : (d == sysModules) = false) (hm : s.heap.DictRaw d es ep)
    (h : ∀ s₂ : Shared, s₂ = { s with heap := s.heap.push { cls := .type "dict_keyiterator", data := .fields #[.ref d, .int 0 0, .int es.size 0, .int ep 0] } } →
      WalksS X.prog X.w A s.heap.objs.size [s.heap.objs.size, d] [s.heap.objs.size] (fun a b => b = a) es.size (fun i v => ∃ hi : i < es.size, v = es[i].key) (fun i s' => s'.heap.IsKeyIter s.heap.objs.size d i es.size ep ∧ s'.heap.DictRaw d es ep) →
      (s₂.heap.IsKeyIter s.heap.objs.size d 0 es.size ep ∧ s₂.heap.DictRaw d es ep) → (∀ b ∈ [s.heap.objs.size, d], b < s₂.heap.objs.size) → (∀ b o, s.heap.get? b = some o → b ∉ [s.heap.objs.size]) → (∀ b o, s.heap.get? b = some o → s₂.heap.get? b = some o) → Q (.ref s.heap.objs.size) s₂) :
    wpAny (model X.prog X.w) A (pyIter (.ref d)) Q E s := by
  have hlt : d < s.heap.objs.size := hm.lt_size
  refine wpAny_pyIter_dict_raw hd hm (h _ rfl (Walks.rawKeys (A := A) hh _ d (Nat.ne_of_lt hlt) es ep).toS ⟨⟨_, Heap.get?_push_size _ rfl, rfl, rfl⟩, hm.push _⟩ (fun b hb => ?_) (fun b o e hb => ?_) fun b o e => Heap.get?_push_of_some _ e)
  · show b < (s.heap.push _).objs.size
    rw [Heap.size_push]
    rcases List.mem_cons.mp hb with rfl | hb
    · exact Nat.lt_succ_self _
    · rcases List.mem_cons.mp hb with rfl | hb
      · exact Nat.lt_succ_of_lt hlt
      · cases hb
  · exact absurd (Heap.lt_size e) ((List.mem_singleton.mp hb) ▸ Nat.lt_irrefl _)
theorem fold_key : ∀ (r : Tb2) (k : List Int), (r.map fun p => keyT p.1).foldl (fun a y => if dataLt a y = true then y else a) (keyT k) = keyT (r.foldl (fun k q => if ltI k q.1 then q.1 else k) k)
  | [], k => rfl
  | p :: r, k => by
    rw [List.map_cons, List.foldl_cons, List.foldl_cons, lt_key]
    by_cases c : ltI k p.1 = true
    · rw [if_pos c, if_pos c]
      exact fold_key r p.1
    · rw [if_neg c, if_neg c]
      exact fold_key r k
theorem max_D (hh : X.A.handled = none) (hu : X.A.units + 65 < cLine) (I : Inv X pins σ H s) {p : Addr} {o : Obj} {xs : Xs} {m : Tb2} {k : List Int} {Q : Value → Shared → Prop} (hp : H p = some (ExO p o)) (dd : DOb p o xs) (r : RpM X.K (Hid N H) xs m) (e : mxT m = some k)
    (h : ∀ b s', Inv X pins σ H s' → SqT X.K (Hid N H) b (k.map V.int) → Q (.ref b) s') : wpAny (model X.prog X.w) X.A (call (.builtin "max") [.ref p]) Q E s := by
  obtain ⟨es, ep, hd, he⟩ := dd.dat
  have hm : s.heap.DictRaw p es ep := ⟨o, (I.hok p _ hp).1, dd.ex, hd⟩
  have hl : es.size = m.length := by rw [← r.len, ← Array.length_toList, he, List.length_map]
  have at_ : ∀ i v, (∃ hi : i < es.size, v = es[i].key) → ∃ k b d, m[i]? = some (k, d) ∧ v = .ref b ∧ SqT X.K (Hid N H) b (k.map V.int) := fun i v ⟨hi, ev⟩ => by
    have hi2 : i < m.length := hl ▸ hi
    obtain ⟨k, d, hkd⟩ : ∃ k d, m[i]? = some (k, d) := ⟨_, _, List.getElem?_eq_getElem hi2⟩
    obtain ⟨b, u, w, h1, h2, _⟩ := r.get hkd
    refine ⟨k, b, d, hkd, ?_, h2⟩
    have z : es.toList[i]? = some (entO (k, b, u)) := by rw [he, List.getElem?_map, h1] <;> rfl
    rw [Array.getElem?_toList, Array.getElem?_eq_getElem hi] at z
    rw [ev, Option.some.inj z]
    rfl
  cases m with
  | nil => cases e
  | cons q r0 =>
    have e : some (r0.foldl (fun k q => if ltI k q.1 then q.1 else k) q.1) = some k := e
    cases e
    refine call_max_walkH (iter_keysW (A := X.A.in1) hh dd.sys hm fun s₂ e2 W st hfp hw hk => ?_)
    refine ⟨_, _, _, _, _, _, _, s.heap, (fun i j => dataLt (((q :: r0).map fun p => keyT p.1).getD j .none) (((q :: r0).map fun p => keyT p.1).getD i .none)), rfl, W, st, hfp, by rw [hl]; exact Nat.succ_pos _, hw, hk, fun i j vi vj s' Q E hk hi hj hq => ?_, fun v s' hP mv => ?_⟩
    · obtain ⟨k1, b1, d1, f1, rfl, g1⟩ := at_ i vi hi
      obtain ⟨k2, b2, d2, f2, rfl, g2⟩ := at_ j vj hj
      obtain ⟨as1, r1⟩ := key_reads I (hid_le.sqT g1)
      obtain ⟨as2, r2⟩ := key_reads I (hid_le.sqT g2)
      have t1 : ((q :: r0).map fun p => keyT p.1).getD i .none = keyT k1 := by rw [List.getD_eq_getElem?_getD, List.getElem?_map, f1] <;> rfl
      have t2 : ((q :: r0).map fun p => keyT p.1).getD j .none = keyT k2 := by rw [List.getD_eq_getElem?_getD, List.getElem?_map, f2] <;> rfl
      refine rcGt_alike _ _ X.A.in1 s' _ _ _ _ (reads_keeps hk r1) (reads_keeps hk r2) (alike_key _ _) (fun z => nomatch z) ?_ X.prog X.w E Q (by dsimp only at hq; rw [t1, t2] at hq; exact hq)
      have h0 : (keyT k1).depth ≤ 2 := by
        have := depth_ints k1
        simp only [keyT, PyData.depth]
        omega
      have h1 := Nat.min_le_left (keyT k1).depth (keyT k2).depth
      show X.A.units + 1 + _ < cLine
      omega
    · obtain ⟨h', tk, rfl, hk'⟩ := moved_old e2 rfl mv
      obtain ⟨k1, b1, d1, f1, rfl, g1⟩ := at_ _ _ hP
      refine h b1 _ (I.kept hk') ?_
      have e3 := (argBest_fold (fun a b => dataLt b a) PyData.none (keyT q.1) (r0.map fun p => keyT p.1) r0.length (by rw [List.length_map]; exact Nat.le_refl _)).2
      rw [List.take_of_length_le (by rw [List.length_map]; exact Nat.le_refl _), fold_key] at e3
      have e4 : es.size - 1 = r0.length := by rw [hl, List.length_cons]; omega
      rw [e4] at f1
      have e5 : (keyT q.1 :: r0.map fun p => keyT p.1).getD (argBest (fun i j => dataLt (((q :: r0).map fun p => keyT p.1).getD j .none) (((q :: r0).map fun p => keyT p.1).getD i .none)) r0.length) .none = keyT k1 := by
        show ((q :: r0).map fun p => keyT p.1).getD _ .none = _
        rw [List.getD_eq_getElem?_getD, List.getElem?_map, f1] <;> rfl
      have e6 : keyT k1 = keyT (r0.foldl (fun k q => if ltI k q.1 then q.1 else k) q.1) := e5.symm.trans e3
      have e7 := congrArg tkD e6
      rw [tkD_key, tkD_key] at e7
      rw [← Option.some.inj e7]
      exact g1
/-- dict(pairs) -/
theorem prT_eq : ∀ {ds : List D} {m : Tb2}, prT ds = some m → ds = m.map fun p => PyData.tuple [keyT p.1, p.2]
  | [], m, e => by cases (show some [] = some m from e); rfl
  | .tuple [k, v] :: ds, m, e => by
    have e : (match tkD k, prT ds with
      | some ns, some q => some ((ns, v) :: q)
      | _, _ => none) = some m := e
    cases h1 : tkD k with
    | none => rw [h1] at e; cases e
    | some ns =>
      cases h2 : prT ds with
      | none => rw [h1, h2] at e; cases e
      | some q =>
        rw [h1, h2] at e
        cases e
        rw [tkD_eq h1, prT_eq h2] <;> rfl
  | .none :: _, _, e => nomatch (show none = some _ from e)
  | .bool _ :: _, _, e => nomatch (show none = some _ from e)
  | .int _ :: _, _, e => nomatch (show none = some _ from e)
  | .str _ :: _, _, e => nomatch (show none = some _ from e)
  | .list _ :: _, _, e => nomatch (show none = some _ from e)
  | .dict _ :: _, _, e => nomatch (show none = some _ from e)
  | .tuple [] :: _, _, e => nomatch (show none = some _ from e)
  | .tuple [_] :: _, _, e => nomatch (show none = some _ from e)
  | .tuple (_ :: _ :: _ :: _) :: _, _, e => nomatch (show none = some _ from e)
theorem pairs_D (I : Inv X pins σ H s) : ∀ {m : Tb2} {vs : List V} {us : List Value}, RpA X.K (Hid N H) vs (m.map fun p => PyData.tuple [keyT p.1, p.2]) → Vals vs us → ∃ (ps : Xs) (ts : List Addr), RpM X.K (Hid N H) ps m ∧ us = ts.map Value.ref ∧ ts.length = ps.length ∧
    ∀ (j : Nat) (x : List Int × Addr × Value), ps[j]? = some x → ∃ t, ts[j]? = some t ∧ IsTup s.heap t #[.ref x.2.1, x.2.2]
  | [], vs, us, r, rv => by
    cases r
    cases rv
    exact ⟨[], [], .nil, rfl, rfl, fun j x e => by simp at e⟩
  | (k, d) :: m, vs, us, r, rv => by
    cases r with
    | cons r1 r2 =>
      cases rv with
      | cons v1 v2 =>
        obtain ⟨ps, ts, i1, i2, i3, i4⟩ := pairs_D I r2 v2
        cases r1 with
        | @tup a xs _ sq ra =>
          cases ra with
          | cons ra1 ra2 =>
            cases ra2 with
            | cons rb1 rb2 =>
              cases rb2
              have ra1 : Rp X.K (Hid N H) _ (.tuple (k.map .int)) := ra1
              cases ra1 with
              | tup sk rk =>
                cases rk.ints (intsD_map k)
                obtain ⟨its, rvi, ht, _⟩ := I.tuple (hid_le.sqT sq)
                obtain ⟨u1, u2, rfl, q1, q2⟩ := vals2 rvi
                cases q1
                cases v1
                refine ⟨(k, _, u2) :: ps, a :: ts, .cons sk q2 rb1 i1, by rw [i2] <;> rfl, by rw [List.length_cons, List.length_cons, i3], fun j x e => ?_⟩
                cases j with
                | zero =>
                  cases (show some _ = some x from e)
                  exact ⟨a, rfl, ht⟩
                | succ j => exact i4 j x (by simpa using e)
theorem dict_of_pairs (hh : X.A.handled = none) (hu : X.A.units + 65 < cLine) (I : Inv X pins σ H s) {a : Addr} {vs : List V} {ds : List D} {m : Tb2} {Q : Value → Shared → Prop} (hl : RdK X.K H a vs) (r : RpA X.K (Hid N H) vs ds) (e : prT ds = some m)
    (h : ∀ o xs s', H s.heap.objs.size = none → Inv X pins σ (upd H s.heap.objs.size (ExO s.heap.objs.size o)) s' → DOb s.heap.objs.size o xs → RpM X.K (Hid N H) xs (mkT [] m) → Q (.ref s.heap.objs.size) s') : wpAny (model X.prog X.w) X.A (call (.type "dict") [.ref a]) Q E s := by
  cases prT_eq e
  obtain ⟨hz, its, n, rv, hg⟩ := hl.obj I.kIn I.hok
  obtain ⟨ps, ts, i1, i2, i3, i4⟩ := pairs_D I r rv
  subst i2
  have hsz : ps.length ≤ sizeLine := by
    have z := rv.length
    rw [List.length_map] at z
    omega
  refine call_dict_pairsH (knd := KI X) (ps := ps) (PairArg.list a (ts.map Value.ref).toArray (fun j => ts.getD j 0) (ps.map fun x => (Value.ref x.2.1, x.2.2))) hh (show X.A.units + 1 + 1 < cLine by omega)
    ⟨⟨_, n, hg, rfl, rfl, rfl⟩, by simp [i3], fun j k v hj => ?_⟩ ⟨by simp, fun i key v hi => ?_⟩ (fun h' hk x hx => ?_) (by simpa using hsz) fun h' tk hd' hk => ?_
  · rw [List.getElem?_map] at hj
    obtain ⟨x, hx, e⟩ := Option.map_eq_some_iff.mp hj
    cases e
    obtain ⟨t, ht, hT⟩ := i4 j x hx
    refine ⟨by simp [ht], ?_⟩
    have et : ts.getD j 0 = t := by rw [List.getD_eq_getElem?_getD, ht] <;> rfl
    show PairAt s.heap (ts.getD j 0) _ _
    rw [et]
    exact .inl hT
  · have hi : (ps.map fun x => (Value.ref x.2.1, x.2.2))[i]? = some (key, v) := hi
    rw [List.getElem?_map] at hi
    obtain ⟨x, hx, e⟩ := Option.map_eq_some_iff.mp hi
    cases e
    exact ⟨x.1, x.2.1, hx, rfl⟩
  · exact tupleKind_stays.stays (fun b o _ _ e _ => hk b o (Nat.ne_of_lt (Heap.lt_size e)) (fun z => nomatch z) e) (tkey I (hid_le.sqT (i1.ats x hx)))
  · have hs : (s.heap.objs.size == sysModules) = false := beq_eq_false_iff_ne.mpr (Nat.ne_of_gt I.big)
    have hle : (storedAllH [] ps).length ≤ sizeLine := by
      have z := storedAllH_le ps []
      rw [List.length_nil, Nat.zero_add] at z
      omega
    obtain ⟨o, ho, d⟩ := dctO hd' hle hs
    exact h o _ _ (I.hok.fresh (Nat.le_refl _)) (I.laid (t' := tk) (fun b u q => hk b u (fun z => nomatch z) q) (Nat.le_refl _) (exo_ok ho)) d (i1.putAll .nil)
theorem dict_of_dict (hu : X.A.units + 65 < cLine) (I : Inv X pins σ H s) {p : Addr} {o : Obj} {xs : Xs} {m : Tb2} {Q : Value → Shared → Prop} (hp : H p = some (ExO p o)) (dd : DOb p o xs) (r : RpM X.K (Hid N H) xs m) (hn : (m.map fun p => tkh p.1).Nodup)
    (h : ∀ o' s', H s.heap.objs.size = none → Inv X pins σ (upd H s.heap.objs.size (ExO s.heap.objs.size o')) s' → DOb s.heap.objs.size o' xs → Q (.ref s.heap.objs.size) s') : wpAny (model X.prog X.w) X.A (call (.type "dict") [.ref p]) Q E s := by
  refine copyD (by omega) dd.sys (dctH I hp dd r) ?_ dd.len fun h' tk d hk => ?_
  · have z : (xs.map fun x => tkh x.1) = (m.map fun p => tkh p.1) := by
      have z := congrArg (List.map tkh) r.keys
      rwa [List.map_map, List.map_map] at z
    rw [z]
    exact hn
  · have hs : (s.heap.objs.size == sysModules) = false := beq_eq_false_iff_ne.mpr (Nat.ne_of_gt I.big)
    obtain ⟨o', ho, d2⟩ := dctO d dd.len hs
    exact h o' _ (I.hok.fresh (Nat.le_refl _)) (I.laid (t' := tk) (fun b u q => hk b u q) (Nat.le_refl _) (exo_ok ho)) d2
theorem sum_T (hh : X.A.handled = none) (I : Inv X pins σ H s) {b : Addr} {k : List Int} {Q : Value → Shared → Prop} (sq : SqT X.K H b (k.map V.int)) (h : ∀ t s', Inv X pins σ H s' → Q (.int k.sum t) s') : wpAny (model X.prog X.w) X.A (call (.builtin "sum") [.ref b]) Q E s := by
  obtain ⟨its, rv, ht, hz⟩ := I.tuple sq
  have hi := rv.ints
  obtain ⟨xs, e⟩ := hi.allInts.items
  have hn : numsOf (intItems xs).toList = k := by rw [← e]; exact hi.numsOf
  rw [nums_intItems] at hn
  have ht : s.heap.IsTuple b its.toArray := ht
  rw [e] at ht
  refine PySem.W.ktm_sumG hh ht fun h' tk t' hk => ?_
  have z := h t' _ (I.kept (t' := tk) hk)
  rw [preSum_eq, List.take_of_length_le (by simp), hn]
  exact z
theorem unlike_nodup : ∀ {l : List Int}, unlike l = true → l.Nodup
  | [], _ => List.nodup_nil
  | a :: r, h => by
    have h : (!r.contains a && unlike r) = true := h
    rw [Bool.and_eq_true, Bool.not_eq_true'] at h
    refine List.nodup_cons.mpr ⟨fun z => ?_, unlike_nodup h.2⟩
    rw [List.contains_iff_mem.mpr z] at h
    exact nomatch h.1
theorem hits_of {ys : Xs} {q : Tb2} (I : Inv X pins σ H s) {A : Around} (hu : A.units < cLine) (rq : RpM X.K (Hid N H) ys q) : ∀ {xs : Xs} {m : Tb2} {c : Bool}, RpM X.K (Hid N H) xs m → eqQ q m = some c → HitsD X.prog X.w A s ys xs c
  | _, _, c, .nil, e => by cases (show some true = some c from e); exact .nil
  | _, _, c, .cons (k := k) (b := b) (u := u) (v := v) (xs := xs) (d := d) (m := m) sq ru rd t, e => by
    have e : (match lkT q k with
      | none => some false
      | some w => match tkD d, tkD w with
        | some x, some y => if x = y then eqQ q m else some false
        | _, _ => none) = some c := e
    have l := rq.look k
    cases h1 : lkT q k with
    | none =>
      rw [h1] at e l
      cases e
      exact .miss l
    | some w =>
      rw [h1] at e l
      obtain ⟨p, v2, l1, l2, l3⟩ := l
      have e : (match tkD d, tkD w with
        | some x, some y => if x = y then eqQ q m else some false
        | _, _ => none) = some c := e
      cases h2 : tkD d with
      | none => rw [h2] at e; cases e
      | some x =>
        cases h3 : tkD w with
        | none => rw [h2, h3] at e; cases e
        | some y =>
          rw [h2, h3] at e
          have e5 : (if x = y then eqQ q m else some false) = some c := e
          clear e
          cases tkD_eq h2
          cases tkD_eq h3
          have rd : Rp X.K (Hid N H) v (.tuple (x.map .int)) := rd
          have l3 : Rp X.K (Hid N H) v2 (.tuple (y.map .int)) := l3
          cases rd with
          | tup s1 r1 =>
            cases r1.ints (intsD_map x)
            cases l3 with
            | tup s2 r2 =>
              cases r2.ints (intsD_map y)
              cases ru
              have l2 : p.2 = .ref _ := l2
              have eqv : SeqAt.EqP X.prog X.w A s (.ref _) p.2 (decide (x = y)) := fun E Q hq => by
                rw [l2]
                exact (KI X).eqBool hu (tkey I (hid_le.sqT s1)) (tkey I (hid_le.sqT s2)) hq
              by_cases c2 : x = y
              · rw [if_pos c2] at e5
                have z := HitsD.hit (b := b) l1 eqv (hits_of I hu rq t e5)
                rwa [decide_eq_true c2, Bool.true_and] at z
              · rw [if_neg c2] at e5
                cases e5
                exact HitsD.stop l1 (by rw [decide_eq_false c2] at eqv; exact eqv)
end
end Hg
set_option Elab.async false
set_option linter.all false
set_option maxRecDepth 100000
set_option maxHeartbeats 400000
/-! Dicts whose keys are tuples of whole numbers: walks. -/
namespace Hg
open PySem PySem.Spec PyProof.Rows L2
def ItdK (p : Addr) (o : Obj) (xs : Xs) : It := ⟨fun i H => H p = some (ExO p o) ∧ i < xs.length, fun i H x H' => H' = H ∧ ∃ k b u, xs[i]? = some (k, b, u) ∧ x = .ref b, fun i H => H p = some (ExO p o) ∧ xs.length ≤ i⟩
def ItdV (p : Addr) (o : Obj) (xs : Xs) : It := ⟨fun i H => H p = some (ExO p o) ∧ i < xs.length, fun i H x H' => H' = H ∧ ∃ k b u, xs[i]? = some (k, b, u) ∧ RelV x u, fun i H => H p = some (ExO p o) ∧ xs.length ≤ i⟩
section
variable {P : Program} {w : World} {K : PySem.W.Frag} {tg : Expr} {p : Addr} {o : Obj} {xs : Xs} {es : Array DictEntry} {ep : Nat}
theorem DOb.raw {X : Cx} {pins : List (Addr × Obj)} {σ : L2.St} {H : Hp} {s : Shared} (I : Inv X pins σ H s) (hp : H p = some (ExO p o)) (dd : DOb p o xs) (hod : o.data = .dict es ep) : s.heap.DictRaw p es ep ∧ es.size = xs.length ∧ ∀ i : Nat, es[i]? = (xs[i]?).map entO := by
  obtain ⟨es', ep', h1, h2⟩ := dd.dat
  rw [hod] at h1
  cases h1
  refine ⟨⟨o, (I.hok p _ hp).1, dd.ex, hod⟩, by rw [← Array.length_toList, h2, List.length_map], fun i => ?_⟩
  rw [← Array.getElem?_toList, h2, List.getElem?_map]
theorem turn_kD (it : Addr) (dd : DOb p o xs) (hod : o.data = .dict es ep) : Turn P w K tg (ItdK p o xs) [it] it (fun i h => h.IsKeyIter it p i es.size ep) where
  mem := by simp
  obj := fun i h st b hb => by
    have e : b = it := by simpa using hb
    subst e
    obtain ⟨oi, e, c, dd⟩ := st
    exact ⟨oi, e, fun v z => by rw [dd] at z; cases z⟩
  keep := fun i h h' st k => st.at fun oi e => k it (by simp) oi e
  item := by
    intro X hP hw hK hc i pins s σ H E I hf st hg
    subst hP hw hK
    obtain ⟨hd, hi⟩ := hg
    obtain ⟨f0, f1, f2, f3, f4, f5⟩ := hf it (by simp)
    obtain ⟨hr, hsz, ent⟩ := dd.raw I hd hod
    have hi2 : i < es.size := hsz ▸ hi
    obtain ⟨⟨k, b, u⟩, hx⟩ : ∃ x, xs[i]? = some x := ⟨xs[i], List.getElem?_eq_getElem hi⟩
    have ek : es[i].key = .ref b := by
      have z := ent i
      rw [Array.getElem?_eq_getElem hi2, hx] at z
      rw [Option.some.inj z]
      rfl
    refine wpAny_pyNext_keys_item_raw st hr hi2 fun h' st' sb => ?_
    have I1 : Inv X pins σ H { s with heap := h' } := I.turned (t' := s.toks) (fun b ob hb e => (sb.2 b hb).trans e) f0 f1 f3 f4 f5
    obtain ⟨oi, e, c, dd'⟩ := id st'
    rw [ek]
    exact ⟨_, rfl, go_of (s := { s with heap := h' }) e c dd' (by decide) ⟨.ref b, H, I1, rfl, ⟨rfl, k, b, u, hx, rfl⟩, st', fun b hb => (hf b hb).1⟩⟩
  done := by
    intro X hP hw hK hc i pins s σ H E I hf st hg
    subst hP hw hK
    obtain ⟨hd, hi⟩ := hg
    obtain ⟨f0, f1, f2, f3, f4, f5⟩ := hf it (by simp)
    obtain ⟨hr, hsz, _⟩ := dd.raw I hd hod
    exact wpAny_pyNext_keys_end_raw (I.ok.hd hc) st hr (by rw [hsz]; exact hi) fun h' eb => ⟨rfl, I.turned (t' := s.toks) (fun b ob hb e => eb b ob hb e) f0 f1 f3 f4 f5⟩
  self := fun A i s Q E st h => by
    refine wpAny_pyIter_slot st.typeIs F.slot_dict_keyiterator_iter (wpAny_call_entry F.slot_dict_keyiterator_iter st.typeIs F.entry_dict_keyiterator_iter ?_ (F.args_dict_keyiterator_iter_1 _))
    show wpAny _ _ (ret (.ref it)) _ _ s
    exact wpAny_pure ⟨_, rfl, "dict_keyiterator", _, st.typeIs, F.slot_dict_keyiterator_next.lookup, h⟩
theorem turn_vD (it : Addr) (dd : DOb p o xs) (hod : o.data = .dict es ep) (hv : ∀ (i : Nat) (x : List Int × Addr × Value), xs[i]? = some x → ∃ v, RelV v x.2.2) : Turn P w K tg (ItdV p o xs) [it] it (fun i h => h.IsValIter it p i es.size ep) where
  mem := by simp
  obj := fun i h st b hb => by
    have e : b = it := by simpa using hb
    subst e
    obtain ⟨oi, e, c, dd⟩ := st
    exact ⟨oi, e, fun v z => by rw [dd] at z; cases z⟩
  keep := fun i h h' st k => st.at fun oi e => k it (by simp) oi e
  item := by
    intro X hP hw hK hc i pins s σ H E I hf st hg
    subst hP hw hK
    obtain ⟨hd, hi⟩ := hg
    obtain ⟨f0, f1, f2, f3, f4, f5⟩ := hf it (by simp)
    obtain ⟨hr, hsz, ent⟩ := dd.raw I hd hod
    have hi2 : i < es.size := hsz ▸ hi
    obtain ⟨⟨k, b, u⟩, hx⟩ : ∃ x, xs[i]? = some x := ⟨xs[i], List.getElem?_eq_getElem hi⟩
    obtain ⟨v, rv⟩ := hv i _ hx
    have ek : es[i].val = u := by
      have z := ent i
      rw [Array.getElem?_eq_getElem hi2, hx] at z
      rw [Option.some.inj z]
      rfl
    refine wpAny_pyNext_values_item_raw st hr hi2 fun h' st' sb => ?_
    have I1 : Inv X pins σ H { s with heap := h' } := I.turned (t' := s.toks) (fun b ob hb e => (sb.2 b hb).trans e) f0 f1 f3 f4 f5
    obtain ⟨oi, e, c, dd'⟩ := id st'
    rw [ek]
    exact ⟨_, rfl, go_of (s := { s with heap := h' }) e c dd' (by decide) ⟨v, H, I1, rv, ⟨rfl, k, b, u, hx, rv⟩, st', fun b hb => (hf b hb).1⟩⟩
  done := by
    intro X hP hw hK hc i pins s σ H E I hf st hg
    subst hP hw hK
    obtain ⟨hd, hi⟩ := hg
    obtain ⟨f0, f1, f2, f3, f4, f5⟩ := hf it (by simp)
    obtain ⟨hr, hsz, _⟩ := dd.raw I hd hod
    exact wpAny_pyNext_values_end_raw (I.ok.hd hc) st hr (by rw [hsz]; exact hi) fun h' eb => ⟨rfl, I.turned (t' := s.toks) (fun b ob hb e => eb b ob hb e) f0 f1 f3 f4 f5⟩
  self := fun A i s Q E st h => wpAny_pyIter_valiter st h
end
section
variable {X : Cx} {e tg : Expr} {td : TE} {apos cpos : Pos}
def iKeyD (K : PySem.W.Frag) (td : TE) : TI := fun σ H R => td σ H fun v H1 => ∃ p o xs, v = .ref p ∧ H1 p = some (ExO p o) ∧ DOb p o xs ∧ R (ItdK p o xs) H1
def iValD (K : PySem.W.Frag) (td : TE) : TI := fun σ H R => td σ H fun v H1 => ∃ p o xs, v = .ref p ∧ H1 p = some (ExO p o) ∧ DOb p o xs ∧ (∀ (i : Nat) (x : List Int × Addr × Value), xs[i]? = some x → ∃ v, RelV v x.2.2) ∧ R (ItdV p o xs) H1
theorem pi_kD (he : PE X e td) : PI X tg e (iKeyD X.K td) := by
  refine ⟨fun pins s σ H R I h => ?_⟩
  refine thn (he.run pins s σ H _ I h) fun u s1 ⟨x, H1, I1, rx, p, o, xs, ex, hp, dd, q⟩ => ?_
  subst ex
  obtain rfl : u = Value.ref p := rx
  obtain ⟨es, ep, hod, _⟩ := dd.dat
  obtain ⟨hr, hsz, _⟩ := dd.raw I1 hp hod
  refine wpAny_pyIter_dict_raw dd.sys hr (pi_one (tk := s1.toks) I1 _ (turn_kD _ dd hod) ⟨_, Heap.get?_push_size _ rfl, rfl, ?_⟩ q)
  rfl
theorem pi_vD (he : PE X e td) (hbase : attributeBase e "values" X.env (eval e X.env) = eval e X.env) (hline : (apos.endLine == cpos.line) = true) : PI X tg (.Call (.Attribute e "values" apos) [] [] cpos) (iValD X.K td) := by
  refine ⟨fun pins s σ H R I h => ?_⟩
  refine wpAny_Call_method (T := "dict") (id := "dict.values") hbase rfl hline F.plainAttrs_dict F.slot_dict_values F.type_dict_values (thn (he.run pins s σ H _ I h) fun u s1 ⟨x, H1, I1, rx, p, o, xs, ex, hp, dd, hv, q⟩ => ?_)
  subst ex
  obtain rfl : u = Value.ref p := rx
  obtain ⟨es, ep, hod, _⟩ := dd.dat
  obtain ⟨hr, hsz, _⟩ := dd.raw I1 hp hod
  refine ⟨hr.typeIs, fun b e => ?_, ?_⟩
  · injection e with e
    subst e
    exact let ⟨o, ho, hc, _⟩ := hr; ⟨o, ho, hc.2.1⟩
  have I2 : Inv X pins σ H1 { s1 with heap := s1.heap.push { cls := .type "dict_values", data := .fields #[.ref p] } } := I1.kept (t' := s1.toks) fun b ob q => Heap.get?_push_of_some _ q
  have fin : wpAny (model X.prog X.w) X.A (pyIter (.ref s1.heap.objs.size)) (PIE X pins σ tg R) X.xe { s1 with heap := s1.heap.push { cls := .type "dict_values", data := .fields #[.ref p] } } := by
    refine wpAny_pyIter_values_raw (d := p) ⟨_, Heap.get?_push_size _ rfl, rfl, rfl⟩ (hr.push _) (pi_one (tk := s1.toks) I2 _ (turn_vD _ dd hod hv) ⟨_, Heap.get?_push_size _ rfl, rfl, ?_⟩ q)
    rfl
  show wpAny _ _ (callWith cpos (.builtin "dict.values") [.ref p] [] []) _ X.xe s1
  exact method_meetsIn F.slot_dict_values F.entry_dict_values rfl (PySem.evalArgs_none ⟨rfl, hr.typeIs, F.args_dict_values_1 _, _, meets_dict_values_raw p dd.sys, ⟨⟨es, ep, hr⟩, fin⟩⟩)
/-- {} -/
theorem dob_new {h : Heap} (hb : sysModules < h.objs.size) : DOb h.objs.size { cls := .type "dict", data := .dict #[] } [] :=
  ⟨⟨rfl, rfl, rfl⟩, ⟨#[], 0, rfl, rfl⟩, List.nodup_nil, Nat.zero_le _, beq_eq_false_iff_ne.mpr (Ne.symm (Nat.ne_of_lt hb))⟩
theorem pe_dnewE {pos : Pos} : PE X (.Dict [] [] pos) (fun _ H Q => ∀ p o, H p = none → DOb p o [] → Q (.ref p) (upd H p (ExO p o))) := ⟨fun pins s σ H Q I h =>
  wpAny_Dict_empty ⟨.ref s.heap.objs.size, _, I.laid (a := s.heap.objs.size) (o := ExO s.heap.objs.size { cls := .type "dict", data := .dict #[] }) (t' := s.toks) (fun _ _ q => Heap.get?_push_of_some _ q) (Nat.le_refl _) (exo_ok (Heap.get?_push_size _ rfl)), rfl,
    h _ _ (I.hok.fresh (Nat.le_refl _)) (dob_new I.big)⟩⟩
/-- what the pairs of a display bear -/
inductive PsM (K : PySem.W.Frag) (H : Hp) : List (V × V) → Tb2 → Prop
  | nil : PsM K H [] []
  | cons {k : List Int} {b : Addr} {v : V} {d : D} {ps : List (V × V)} {m : Tb2} : SqT K H b (k.map V.int) → Rp K H v d → PsM K H ps m → PsM K H ((.ref b, v) :: ps) ((k, d) :: m)
theorem carries_D {pins : List (Addr × Obj)} {σ : L2.St} {H : Hp} {s : Shared} {N : NS} (I : Inv X pins σ H s) : ∀ {ps : List (V × V)} {vs : List (Value × Value)} {m : Tb2}, VV ps vs → PsM X.K (Hid N H) ps m → ∃ xs : Xs, CarriesH (KI X) s.heap vs xs ∧ RpM X.K (Hid N H) xs m
  | [], _, _, h, q => by
    cases h
    cases q
    exact ⟨[], trivial, .nil⟩
  | p :: ps, _, _, h, q => by
    cases q with
    | @cons k b v d _ m sq r q =>
      cases h with
      | @cons _ z _ _ h t =>
        obtain ⟨xs, c, rr⟩ := carries_D I t q
        obtain ⟨h1, h2⟩ := h
        obtain ⟨z1, z2⟩ := z
        exact ⟨(k, b, z2) :: xs, ⟨h1, rfl, tkey I (hid_le.sqT sq), c⟩, .cons sq h2 r rr⟩
theorem PsM.len {K : PySem.W.Frag} {H : Hp} : ∀ {ps : List (V × V)} {m : Tb2}, PsM K H ps m → ps.length = m.length
  | _, _, .nil => rfl
  | _, _, .cons _ _ t => congrArg Nat.succ t.len
theorem pe_dispE {pos : Pos} {keys : List (Option Expr)} {values : List Expr} {trs : List (TE × TE)} (hu : X.A.units + 65 < cLine) (h : PPs X pos keys values trs) (hall : keys.all (·.isSome) = true) (hl : keys.length = values.length) (h0 : keys ≠ []) (h15 : keys.length ≤ 15) :
    PE X (.Dict keys values pos) (fun σ H Q => ∀ p o, H p = none → DOb p o [] → tPairs trs σ (upd H p (ExO p o)) fun ps H2 => H2 p = some (ExO p o) ∧ ∃ (N : NS) (m : Tb2), PsM X.K (Hid N H2) ps m ∧ ∀ o' xs, DOb p o' xs → RpM X.K (Hid N H2) xs (mkT [] m) → Q (.ref p) (upd H2 p (ExO p o'))) := by
  refine ⟨fun pins s σ H Q I q => ?_⟩
  have hn := I.hok.fresh (Nat.le_refl s.heap.objs.size)
  have I1 := I.laid (a := s.heap.objs.size) (o := ExO s.heap.objs.size { cls := .type "dict", data := .dict #[] }) (h' := s.heap.push { cls := .type "dict", data := .dict #[] }) (t' := s.toks) (fun _ _ q => Heap.get?_push_of_some _ q) (Nat.le_refl _) (exo_ok (Heap.get?_push_size _ rfl))
  have hpl := pairTrees_length keys values X.env pos hall hl
  have hz : pairTrees keys values X.env pos ≠ [] := fun he => by
    rw [he] at hpl
    exact h0 (List.length_eq_zero_iff.mp hpl.symm)
  rw [arm_eval_Dict, zip_pairTrees keys values X.env pos hall hl, dictDisplay_pairs _ hz (by rw [hpl]; omega)]
  refine wpAny_bind (wpAny_standAt (wpAny_bind (wpAny_subDictH (knd := KI X) (Q := fun d s' => wpAny (model X.prog X.w) X.A (pure (Value.ref d)) (EP X pins σ Q) X.xe s') (show X.A.units < cLine by omega) (by rw [hpl]; exact h15)
    (wpAny_mono (wpAny_evalPairs_len (h.run pins _ σ _ _ I1 (q _ _ hn (dob_new I.big)))) (fun vs s1 z => ?_) fun _ _ e => e))))
  obtain ⟨hvl, ps, H2, I2, rel, e, N, m, pm, q2⟩ := z
  obtain ⟨xs, c, r⟩ := carries_D I2 rel pm
  have d0 : s1.heap.DictOfH (KI X) s.heap.objs.size [] := dctH (N := N) (m := []) I2 e (dob_new I.big) .nil
  refine ⟨xs, c, d0, fun h' tk d' hs => wpAny_pure ?_⟩
  have hlx : (storedAllH [] xs).length ≤ sizeLine := by
    have z1 := storedAllH_le xs []
    have z2 := c.length
    rw [List.length_nil, Nat.zero_add] at z1
    rw [sizeLine_eq]
    omega
  obtain ⟨o', ho, dd⟩ := dctO d' hlx (dob_new (h := s.heap) I.big).sys
  exact ⟨.ref s.heap.objs.size, _, d_write (t' := tk) I2 (by rw [e]; exact True.intro) hs ⟨o', ho⟩ (exo_ok ho), rfl, q2 o' _ dd (r.putAll .nil)⟩
/-- d.get(k, x) -/
theorem pe_getE {o e f : Expr} {td ty tx : TE} (hu : X.A.units + 65 < cLine) (ho : PE X o td) (he : PE X e ty) (hf : PE X f tx) (m : M2 X o "get" apos e f cpos) :
    PE X (.Call (.Attribute o "get" apos) [e, f] [] cpos) (fun σ H Q => td σ H fun x H1 => ∃ p ob xs, x = .ref p ∧ H1 p = some (ExO p ob) ∧ DOb p ob xs ∧ ty σ H1 fun y H2 => tx σ H2 fun z H3 => ∃ (N : NS) (ob' : Obj) (xs' : Xs) (m : Tb2) (b : Addr) (k : List Int) (d : D),
      H3 p = some (ExO p ob') ∧ DOb p ob' xs' ∧ RpM X.K (Hid N H3) xs' m ∧ y = .ref b ∧ SqT X.K H3 b (k.map V.int) ∧ Rp X.K (Hid N H3) z d ∧ ∀ v, Rp X.K (Hid N H3) v ((lkT m k).getD d) → Q v H3) := by
  refine ⟨fun pins s σ H Q I h => ?_⟩
  refine wpAny_Call_method m.base m.few m.line PySem.F.plainAttrs_dict PySem.F.slot_dict_get PySem.F.type_dict_get (thn (ho.run pins s σ H _ I h) fun u s1 ⟨x, H1, I1, rx, p, ob, xs, ex, hp, dd, q1⟩ => ?_)
  subst ex
  obtain rfl : u = Value.ref p := rx
  have g1 := (I1.hok p _ hp).1
  refine ⟨⟨ob, g1, dd.ex.1⟩, fun b q => by injection q with q; subst q; exact ⟨ob, g1, dd.ex.2.1⟩, ?_⟩
  rw [m.trees]
  refine Calls.callWith_builtin rfl (Calls.evalArgs_plain (Calls.spliced_cons (thn (he.run pins s1 σ H1 _ I1 q1) fun iv s2 ⟨y, H2, I2, ry, q2⟩ =>
    Calls.spliced_cons (thn (hf.run pins s2 σ H2 _ I2 q2) fun fv s3 ⟨z, H3, I3, rz, N, ob', xs', mm, b, k, d, hp3, dd3, r3, ey, sq, rd, q3⟩ => Calls.spliced_nil ?_))))
  subst ey
  obtain rfl : iv = Value.ref b := ry
  exact getD_D (by omega) I3 hp3 dd3 r3 sq rz rd fun u v s' I' r1 r2 => ⟨v, H3, I', r1, q3 v r2⟩
end
end Hg
set_option Elab.async false
set_option linter.all false
set_option maxRecDepth 100000
set_option maxHeartbeats 400000
/-! Two lists whose items are surely equal: `!=` says False. -/
namespace PySem.SeqAt
open AutoSeq1 (wpAny_loadPart')
open MeetsSeq MeetsSeq2 MeetsSeq3 SeqRoads2
/-- a plain list object -/
abbrev lsObj (d : Option Addr) (xs : Array Value) (m : Nat) (sl : Array (Option Value)) : Obj := { cls := .type "list", dict := d, data := .seq xs m, slots := sl }
section
variable {prog : Program} {w : World}
/-- what the walk over both lists needs -/
def Both (prog : Program) (w : World) (p q : Addr) (o o2 : Obj) (xs ys : Array Value) : Spec := fun A R s =>
  s.heap.get? p = some o ∧ s.heap.get? q = some o2 ∧ (∀ j (h1 : j < xs.size) (h2 : j < ys.size), EqP prog w A.in1 s xs[j] ys[j] true) ∧ R (.ok (.ret (.bool false))) s
theorem same_walk (p q : Addr) (xs ys : Array Value) (m m2 : Nat) (d d2 : Option Addr) (sl sl2 : Array (Option Value)) (hz : xs.size = ys.size) :
    ∀ left at_ : Nat, xs.size - at_ = left → MeetsIn prog w (Builtin.«list.__eq__.loop» ⟨[.ref p, .ref q, rawInt at_, rawInt 3], []⟩) (Both prog w p q (lsObj d xs m sl) (lsObj d2 ys m2 sl2) xs ys) := by
  intro left
  induction left with
  | zero =>
    rintro at_ hl A R ⟨hp, g, dd, tk, os⟩ ⟨h1, h2, _, hR⟩
    have b1 : xs[((at_ : Nat) : Int).toNat]? = none := by simp; omega
    have b2 : ys[((at_ : Nat) : Int).toNat]? = none := by simp; omega
    wp_walk using wpAny_loadPart' h1, wpAny_loadPart' h2
    rw [b1, b2]
    wp_walk using wpAny_loadPart' h1, wpAny_loadPart' h2
    show R (.ok (.ret (.bool (xs.size != ys.size)))) _
    rw [hz]
    simpa using hR
  | succ left ih =>
    rintro at_ hl A R ⟨hp, g, dd, tk, os⟩ ⟨h1, h2, he, hR⟩
    have c1 : at_ < xs.size := by omega
    have c2 : at_ < ys.size := by omega
    have b1 : xs[((at_ : Nat) : Int).toNat]? = some xs[at_] := by simp [c1]
    have b2 : ys[((at_ : Nat) : Int).toNat]? = some ys[at_] := by simp [c2]
    have up : ((at_ : Int) + 1) = ((at_ + 1 : Nat) : Int) := by push_cast; rfl
    wp_walk using wpAny_loadPart' h1, wpAny_loadPart' h2
    rw [b1, b2]
    refine wpAny_bind (he at_ c1 c2 _ _ ?_)
    wp_walk
    rw [up]
    refine ⟨plainId_quiet plain_eq_loop _, codeAny_builtin entry_eq_loop ?_⟩
    rw [Around.under_plainId plain_eq_loop _]
    exact ih (at_ + 1) (by omega) A R _ ⟨h1, h2, he, hR⟩
theorem same_start (p q : Addr) (xs ys : Array Value) (m m2 : Nat) (d d2 : Option Addr) (sl sl2 : Array (Option Value)) (hz : xs.size = ys.size) :
    MeetsIn prog w (Builtin.«list.__ne__» ⟨[.ref p, .ref q], []⟩) (Both prog w p q (lsObj d xs m sl) (lsObj d2 ys m2 sl2) xs ys) := by
  rintro A R ⟨hp, g, dd, tk, os⟩ ⟨h1, h2, he, hR⟩
  have sub := AutoSeq1.sub_list_list
  have nz : ¬ (xs.size != ys.size) = true := by simp [hz]
  wp_walk using wpAny_loadPart' h1, wpAny_loadPart' h2
  refine ⟨plainId_quiet plain_eq_loop _, codeAny_builtin entry_eq_loop ?_⟩
  rw [Around.under_plainId plain_eq_loop _]
  exact same_walk p q xs ys m m2 d d2 sl sl2 hz _ 0 rfl A R _ ⟨h1, h2, he, hR⟩
/-- lists of equal items are not unlike -/
theorem ne_same {A : Around} {s : Shared} {p q : Addr} {xs ys : Array Value} (hp : s.heap.IsList p xs) (hq : s.heap.IsList q ys) (hz : xs.size = ys.size) (hu : A.units < cLine)
    (he : ∀ j (h1 : j < xs.size) (h2 : j < ys.size), EqP prog w A.in1 s xs[j] ys[j] true) {E Q : Value → Shared → Prop} (h : Q (.bool false) s) : wpAny (model prog w) A (richCompare .NotEq (.ref p) (.ref q)) Q E s := by
  obtain ⟨⟨cls, d, data, sl⟩, ho, hc, m, hd⟩ := id hp
  obtain ⟨⟨cls2, d2, data2, sl2⟩, ho2, hc2, m2, hd2⟩ := id hq
  simp only at hc hd hc2 hd2
  subst hc hd hc2 hd2
  refine wpAny_richCompare_same_room (op := .NotEq) (T := "list") ⟨_, ho, rfl⟩ ⟨_, ho2, rfl⟩ F.slot_list_ne ?_ hu
  exact call_meetsIn F.slot_list_ne ⟨_, ho, rfl⟩ F.entry_list_ne (F.args_list_ne_2 _ _) (same_start p q xs ys m m2 d d2 sl sl2 hz) ⟨ho, ho2, he, (fun x => nomatch x), h⟩
end
end PySem.SeqAt
set_option Elab.async false
set_option linter.all false
set_option maxRecDepth 100000
set_option maxHeartbeats 400000
/-! Operations on data. -/
namespace Hg
open PySem PySem.Spec PyProof.Rows L2
abbrev Dm (N : NS) (H : Hp) : Prop := ∀ b, N b → ∃ u, H b = some u
section
variable {K : PySem.W.Frag} {N : NS} {H : Hp} {Q : VK}
theorem Dm.free (h : Dm N H) {p : Addr} (e : H p = none) : ¬ N p := fun z => by
  obtain ⟨u, q⟩ := h p z
  rw [e] at q; cases q
theorem Dm.leNew (h : Dm N H) {p : Addr} {o : HO} (e : H p = none) : Le (Hid N H) (Hid N (upd H p o)) := fun b u _ z => by
  obtain ⟨a, z⟩ := hid_iff.mp z
  exact hid_iff.mpr ⟨a, by rw [upd_ne (ne_of_none z e)]; exact z⟩
theorem Dm.leAd (h : Dm N H) {p : Addr} {o : HO} (e : H p = none) : Le (Hid N H) (Hid (Ad N p) (upd H p o)) := fun b u _ z => by
  obtain ⟨a, z⟩ := hid_iff.mp z
  have n : b ≠ p := ne_of_none z e
  exact hid_iff.mpr ⟨fun y => y.elim a n, by rw [upd_ne n]; exact z⟩
/-- a new tuple, a new list -/
theorem Dm.tup (h : Dm N H) {p : Addr} {vs : List V} {ds : List D} (e : H p = none) (r : RpA K (Hid N H) vs ds) : Rp K (Hid N (upd H p (.tup vs))) (.ref p) (.tuple ds) :=
  .tup (SqT.of (hid_iff.mpr ⟨h.free e, upd_same⟩)) (RpA.mono (h.leNew e) _ _ r)
theorem Dm.lst (h : Dm N H) {p : Addr} {vs : List V} {ds : List D} (e : H p = none) (r : RpA K (Hid N H) vs ds) : OwAt K (Ad N p) (upd H p (.lst vs)) p (.lst ds) :=
  ⟨vs, upd_same, RpA.mono (h.leAd e) _ _ r⟩
theorem Give.int {i : Int} (g : Give K N H (.sh (.int i)) Q) : Q (.int i) H := g.1 _ (.int i)
theorem Give.bl {b : Bool} (g : Give K N H (.sh (.bool b)) Q) : Q (.bl b) H := g.1 _ (.bl b)
end
theorem okMul_ok {i j : Int} (h : okMul i j = true) : CMulW i j := by
  unfold okMul at h
  unfold CMulW
  exact of_decide_eq_true h
section
variable {X : Cx}
theorem op_fdivA : OpR X (binaryOp .FloorDiv) (rI (fun _ j => j ≠ 0 ∧ j.natAbs.log2 < 9000) fun i j => .int (i.fdiv j)) := opI fun _ _ _ _ _ _ _ c q => floordiv_int c.1 q (.inl (PyProof.noPylong_of_log2 c.2))
theorem op_catL : OpR X (binaryOp .Add) (fun x y H Q => ∃ l b xs zs, x = .ref l ∧ y = .ref b ∧ RdK X.K H l xs ∧ RdK X.K H b zs ∧ xs.length + zs.length ≤ sizeLine ∧ ∀ p, H p = none → Q (.ref p) (upd H p (.lst (xs ++ zs)))) := by
  rintro pins s σ H x y v u Q I rx ry ⟨l, b, xs, zs, rfl, rfl, h1, h2, hz, q⟩
  cases rx
  cases ry
  obtain ⟨_, as, n, ra, ea⟩ := h1.obj I.kIn I.hok
  obtain ⟨_, bs, m, rb, eb⟩ := h2.obj I.kIn I.hok
  have la := ra.length
  have lb := rb.length
  refine PySem.P.add_list ea eb ?_ (by rw [List.size_toArray, List.size_toArray]; omega)
  rw [show as.toArray ++ bs.toArray = (as ++ bs).toArray by simp]
  exact ⟨.ref _, _, I.lnew (t' := s.toks) (ra.append rb) (by rw [List.length_append]; omega), rfl, q _ I.fresh⟩
theorem op_repL : OpR X (binaryOp .Mult) (fun x y H Q => ∃ l k xs, x = .ref l ∧ y = .int k ∧ RdK X.K H l xs ∧ -(2 ^ 63) ≤ k ∧ k < 2 ^ 63 ∧ xs.length * k.toNat ≤ sizeLine ∧
    ∀ p, H p = none → Q (.ref p) (upd H p (.lst (List.replicate k.toNat xs).flatten))) := by
  rintro pins s σ H x y v u Q I rx ry ⟨l, k, xs, rfl, rfl, hl, k1, k2, hz, q⟩
  cases rx
  obtain ⟨t, rfl⟩ := ry
  obtain ⟨_, as, n, ra, ea⟩ := hl.obj I.kIn I.hok
  have la := ra.length
  have small : as.toArray.size * k.toNat ≤ sizeLine := by rw [List.size_toArray, ← la]; exact hz
  have c1 : ¬ as.toArray.size * k.toNat > (2 ^ 63 - 1) / 8 := by
    have z : sizeLine ≤ (2 ^ 63 - 1) / 8 := by decide
    omega
  have c2 : ¬ (!Builtin.List.listFitsIndex k) = true := by rw [fitsIndex_both k1 k2]; decide
  have c3 : ¬ Builtin.List.listTooLong (as.toArray.size * k.toNat) = true := by rw [notLongL small]; decide
  have rep : ∀ m : Nat, List.foldl (fun a b => a ++ b) #[] (List.replicate m as.toArray) = (List.replicate m as).flatten.toArray := fun m => by
    have z := foldl_rep as m []
    rwa [List.nil_append] at z
  have all : List.foldl (fun a b => a ++ b) #[] (List.replicate (if as.toArray.isEmpty = true then 0 else k.toNat) as.toArray) = (List.replicate k.toNat as).flatten.toArray := by
    rw [rep]
    cases as with
    | nil => simp
    | cons a r => simp
  refine wpAny_binaryOp_repeat_ref (T := "list") (U := "int") (by decide) ⟨_, ea, rfl⟩ (fun z => typeIs_int z k t) noFill_list_mul F.fills_int_mul F.slot_int_rmul repeat_list F.slot_int_index.lookup ?_
  refine call_meets F.slot_int_rmul (typeIs_int s k t) F.entry_int_rmul (F.args_int_rmul_2 _ _) (int___rmul___int_list k t l as.toArray n) ⟨ea, rfl, ⟨_, ea, rfl⟩, ?_⟩
  refine call_meets F.slot_list_mul ⟨_, ea, rfl⟩ F.entry_list_mul (F.args_list_mul_2 _ _) (AutoListH.list___mul___list_int_3 l as.toArray n k t c2 c1 c3) ⟨ea, ?_⟩
  rw [all]
  exact ⟨.ref _, _, I.lnew (t' := s.toks) (ra.rep k.toNat) (by rw [PyProof.Rows.lm_len_rep_flat, Nat.mul_comm]; exact hz), rfl, q _ I.fresh⟩
/-- a two-place operation on data -/
def rBin (K : PySem.W.Frag) (f : D → D → Option Sl) : R2 := fun x y H Q => ∃ N d e r, Dm N H ∧ Rd_ K N H x d ∧ Rd_ K N H y e ∧ f d e = some r ∧ Give K N H r Q
theorem bin_ok (op : Operator) : OpR X (binaryOp op) (rBin X.K (binD op)) := by
  rintro pins s σ H x y v u Q I rx ry ⟨N, d, e, r, hN, h1, h2, hf, g⟩
  unfold binD at hf
  split at hf
  · cases hf; cases h1; cases h2
    exact op_add pins s σ H _ _ v u Q I rx ry ⟨_, _, rfl, rfl, g.int⟩
  · cases hf; cases h1; cases h2
    exact op_sub pins s σ H _ _ v u Q I rx ry ⟨_, _, rfl, rfl, g.int⟩
  · split at hf
    · rename_i c
      cases hf; cases h1; cases h2
      exact op_mulW pins s σ H _ _ v u Q I rx ry ⟨_, _, rfl, rfl, okMul_ok c, g.int⟩
    · cases hf
  · split at hf
    · rename_i c
      cases hf; cases h1; cases h2
      obtain ⟨c1, c2⟩ := Bool.and_eq_true_iff.mp c
      exact op_fdivA pins s σ H _ _ v u Q I rx ry ⟨_, _, rfl, rfl, ⟨of_decide_eq_true c1, of_decide_eq_true c2⟩, g.int⟩
    · cases hf
  · split at hf
    · cases hf
    · rename_i c
      cases hf; cases h1; cases h2
      exact op_modN pins s σ H _ _ v u Q I rx ry ⟨_, _, rfl, rfl, c, g.int⟩
  · split at hf
    · rename_i c
      cases hf; cases h1; cases h2
      obtain ⟨c1, c3⟩ := Bool.and_eq_true_iff.mp c
      obtain ⟨c1, c2⟩ := Bool.and_eq_true_iff.mp c1
      exact op_pow pins s σ H _ _ v u Q I rx ry ⟨_, _, rfl, rfl, ⟨of_decide_eq_true c1, of_decide_eq_true c2, of_decide_eq_true c3⟩, g.int⟩
    · cases hf
  · split at hf
    · rename_i c
      cases hf
      obtain ⟨p, vs, rfl, a1, b1⟩ := h1
      obtain ⟨q, ws, rfl, a2, b2⟩ := h2
      exact op_catL pins s σ H _ _ v u Q I rx ry ⟨_, _, _, _, rfl, rfl, a1, a2, by rw [b1.length, b2.length]; exact c, fun z hz => g z _ hz (hN.lst hz (b1.append b2))⟩
    · cases hf
  · split at hf
    · rename_i c
      cases hf
      cases h1 with
      | tup a1 b1 =>
        cases h2 with
        | tup a2 b2 =>
          refine op_catA pins s σ H _ _ v u Q I rx ry ⟨_, _, _, _, rfl, rfl, hid_le.sqT a1, hid_le.sqT a2, by rw [b1.length, b2.length]; exact c, fun z => ?_, fun z z2 => ?_, fun z z2 p hp => ?_⟩
          · subst z
            cases b1
            exact g.1 _ (.tup a2 b2)
          · subst z2
            cases b2
            rw [List.append_nil] at g
            exact g.1 _ (.tup a1 b1)
          · exact g.2 p _ hp (hN.tup hp (b1.append b2))
    · cases hf
  · split at hf
    · rename_i c
      cases hf
      obtain ⟨c1, c2, c3⟩ := c
      obtain ⟨p, vs, rfl, a1, b1⟩ := h1
      cases h2
      exact op_repL pins s σ H _ _ v u Q I rx ry ⟨_, _, _, rfl, rfl, a1, by omega, c2, by rw [b1.length]; exact c3, fun z hz => g z _ hz (hN.lst hz (b1.rep _))⟩
    · cases hf
  · split at hf
    · rename_i c
      cases hf
      obtain ⟨c0, c1, c2, c3⟩ := c
      cases h1 with
      | tup a1 b1 =>
        cases h2
        exact op_repT pins s σ H _ _ v u Q I rx ry ⟨_, _, _, rfl, rfl, hid_le.sqT a1, fun z => c0 (List.eq_nil_of_length_eq_zero (by rw [← b1.length, z] <;> rfl)), c1, c2, by rw [b1.length]; exact c3, fun p hp => g.2 p _ hp (hN.tup hp (b1.rep _))⟩
    · cases hf
  · cases hf

/-! ### comparisons -/
theorem Rd_.shape {K : PySem.W.Frag} {N : NS} {H : Hp} {v : V} {d : D} (h : Rd_ K N H v d) (c : SeqAt.shaped d = true) : Dp K H v d := Rp.dp d v h.rp (SeqAt.canLay_of_shaped c)
def rCmp (K : PySem.W.Frag) (f : D → D → Option Bool) : R2 := fun x y H Q => ∃ N d e k, Rd_ K N H x d ∧ Rd_ K N H y e ∧ f d e = some k ∧ Q (.bl k) H
theorem eqD_some {x y : D} {k : Bool} (h : eqD x y = some k) : SeqAt.shaped x = true ∧ SeqAt.shaped y = true ∧ k = PyData.eqv x y := by
  unfold eqD at h
  split at h
  · rename_i c
    cases h
    exact ⟨(Bool.and_eq_true_iff.mp c).1, (Bool.and_eq_true_iff.mp c).2, rfl⟩
  · cases h
theorem Rp.isN {K : PySem.W.Frag} {H : Hp} {v : V} {d : D} (h : Rp K H v d) : decide (v = .non) = isNo d := by
  cases h <;> first | rfl | exact decide_eq_false (fun z => nomatch z)
theorem room_in_tup {A : Around} {d : PyData} {ds : List PyData} (h : SeqAt.shaped d = true) (_ : SeqAt.shaped (.tuple ds) = true) (hu : A.units + 65 < cLine) : A.units + 1 + min (PyData.depthAll ds) d.depth < cLine := by
  have h1 := SeqAt.depth_of_shaped h
  have h2 : min (PyData.depthAll ds) d.depth ≤ d.depth := Nat.min_le_right _ _
  omega
theorem eqT_some {a b : List (D × D)} {k : Bool} (h : eqT a b = some k) : ∃ m q, ktD a = some m ∧ ktD b = some q ∧ ((m.length = q.length ∧ eqQ q m = some k) ∨ (m.length ≠ q.length ∧ k = false)) := by
  unfold eqT at h
  cases h1 : ktD a with
  | none => rw [h1] at h; cases h
  | some m =>
    cases h2 : ktD b with
    | none => rw [h1, h2] at h; cases h
    | some q =>
      rw [h1, h2] at h
      have h : (if m.length = q.length then eqQ q m else some false) = some k := h
      refine ⟨m, q, rfl, rfl, ?_⟩
      by_cases c : m.length = q.length
      · rw [if_pos c] at h
        exact .inl ⟨c, h⟩
      · rw [if_neg c] at h
        cases h
        exact .inr ⟨c, rfl⟩
theorem inT_some {x : D} {kvs : List (D × D)} {k : Bool} (h : inT x kvs = some k) : ∃ n m, tkD x = some n ∧ ktD kvs = some m ∧ k = (lkT m n).isSome := by
  unfold inT at h
  cases h1 : tkD x with
  | none => rw [h1] at h; cases h
  | some n =>
    cases h2 : ktD kvs with
    | none => rw [h1, h2] at h; cases h
    | some m =>
      rw [h1, h2] at h
      cases h
      exact ⟨n, m, rfl, rfl, rfl⟩
theorem ixT_some {x r : D} {kvs : List (D × D)} (h : ixT kvs x = some r) : ∃ n m, tkD x = some n ∧ ktD kvs = some m ∧ lkT m n = some r := by
  unfold ixT at h
  cases h1 : tkD x with
  | none => rw [h1] at h; cases h
  | some n =>
    cases h2 : ktD kvs with
    | none => rw [h1, h2] at h; cases h
    | some m =>
      rw [h1, h2] at h
      exact ⟨n, m, rfl, rfl, h⟩
theorem dct_eq {N : NS} {pins : List (Addr × Obj)} {σ : L2.St} {H : Hp} {s : Shared} {x y : V} {v u : Value} {a b : List (D × D)} {k : Bool} (I : Inv X pins σ H s) (rx : RelV x v) (ry : RelV y u) (h1 : Rd_ X.K N H x (.dict a)) (h2 : Rd_ X.K N H y (.dict b)) (e : eqT a b = some k) (hu : X.A.units + 65 < cLine) :
    ∃ p q xs ys, v = .ref p ∧ u = .ref q ∧ (p == sysModules) = false ∧ (q == sysModules) = false ∧ s.heap.DictOfH (KI X) p xs ∧ s.heap.DictOfH (KI X) q ys ∧ ∃ r, (xs.length = ys.length → HitsD X.prog X.w X.A.in1 s ys xs r) ∧ (xs.length == ys.length && r) = k := by
  obtain ⟨m, q, e1, e2, c⟩ := eqT_some e
  obtain ⟨p, o, xs, rfl, hp, dd, r⟩ := h1.dct e1
  obtain ⟨p', o', ys, rfl, hp', dd', r'⟩ := h2.dct e2
  cases rx
  cases ry
  refine ⟨p, p', xs, ys, rfl, rfl, dd.sys, dd'.sys, dctH I hp dd r, dctH I hp' dd' r', k, fun hl => ?_, ?_⟩
  · rcases c with ⟨c, ee⟩ | ⟨c, _⟩
    · exact hits_of I (show X.A.units + 1 < cLine by omega) r' r ee
    · rw [r.len, r'.len] at hl
      exact (c hl).elim
  · rcases c with ⟨c, _⟩ | ⟨c, rfl⟩
    · rw [r.len, r'.len, c]
      simp
    · simp
theorem dct_eqP {N : NS} {pins : List (Addr × Obj)} {σ : L2.St} {H : Hp} {s : Shared} {x y : V} {v u : Value} {a b : List (D × D)} (I : Inv X pins σ H s) {A : Around} (hu : A.units + 2 < cLine) (rx : RelV x v) (ry : RelV y u) (h1 : Rd_ X.K N H x (.dict a)) (h2 : Rd_ X.K N H y (.dict b)) (e : eqT a b = some true) :
    SeqAt.EqP X.prog X.w A s v u true := by
  obtain ⟨m, q, e1, e2, c⟩ := eqT_some e
  obtain ⟨p, o, xs, rfl, hp, dd, r⟩ := h1.dct e1
  obtain ⟨p', o', ys, rfl, hp', dd', r'⟩ := h2.dct e2
  cases rx
  cases ry
  rcases c with ⟨c, ee⟩ | ⟨_, z⟩
  · by_cases e : p = p'
    · subst e
      exact (SeqAt.EqAt.same _).eqP
    · refine SeqAt.eqP_refs e fun E Q hq => ?_
      refine eqD_ (A := A) dd.sys dd'.sys (dctH I hp dd r) (dctH I hp' dd' r') (show A.units + 1 < cLine by omega) (fun _ => hits_of I (show A.units + 1 < cLine by omega) r' r ee) ?_
      rw [r.len, r'.len, c]
      simpa using hq
  · cases z
theorem sure_items {N : NS} {pins : List (Addr × Obj)} {σ : L2.St} {H : Hp} {s : Shared} (I : Inv X pins σ H s) {A : Around} (hu : A.units + 2 < cLine) : ∀ {as bs : List D} {vs us : List V} {ws zs : List Value}, RpA X.K (Hid N H) vs as → RpA X.K (Hid N H) us bs → Vals vs ws → Vals us zs → sureL as bs = true →
    ws.length = zs.length ∧ ∀ j (h1 : j < ws.length) (h2 : j < zs.length), SeqAt.EqP X.prog X.w A s ws[j] zs[j] true
  | [], [], _, _, _, _, .nil, .nil, h3, h4, _ => by
    cases h3
    cases h4
    exact ⟨rfl, fun j h _ => (Nat.not_lt_zero j h).elim⟩
  | .dict a :: as, .dict b :: bs, _, _, _, _, .cons h1 t1, .cons h2 t2, h3, h4, e => by
    cases h3 with
    | cons a1 b1 =>
      cases h4 with
      | cons a2 b2 =>
        have e : ((match eqT a b with | some true => true | _ => false) && sureL as bs) = true := e
        obtain ⟨e1, e2⟩ := Bool.and_eq_true_iff.mp e
        have e1 : eqT a b = some true := by
          split at e1
          · assumption
          · cases e1
        obtain ⟨l, g⟩ := sure_items I hu t1 t2 b1 b2 e2
        refine ⟨by rw [List.length_cons, List.length_cons, l], fun j q1 q2 => ?_⟩
        cases j with
        | zero => exact dct_eqP I hu a1 a2 (Rp.rd h1) (Rp.rd h2) e1
        | succ j => exact g j (Nat.lt_of_succ_lt_succ q1) (Nat.lt_of_succ_lt_succ q2)
theorem lst_ne {N : NS} {pins : List (Addr × Obj)} {σ : L2.St} {H : Hp} {s : Shared} {x y : V} {v u : Value} {as bs : List D} (I : Inv X pins σ H s) (hu : X.A.units + 65 < cLine) (rx : RelV x v) (ry : RelV y u) (h1 : Rd_ X.K N H x (.list as)) (h2 : Rd_ X.K N H y (.list bs)) (e : sureL as bs = true) {E Q : Value → Shared → Prop} (q : Q (.bool false) s) :
    wpAny (model X.prog X.w) X.A (compareOp .NotEq v u) Q E s := by
  obtain ⟨p, vs, rfl, a1, b1⟩ := h1
  obtain ⟨p', us, rfl, a2, b2⟩ := h2
  cases rx
  cases ry
  obtain ⟨ws, r1, p1, _⟩ := I.list a1.sqL
  obtain ⟨zs, r2, p2, _⟩ := I.list a2.sqL
  obtain ⟨l, g⟩ := sure_items I (A := X.A.in1) (show X.A.units + 1 + 2 < cLine by omega) b1 b2 r1 r2 e
  refine SeqAt.ne_same p1.isList p2.isList (by simpa using l) (by omega) (fun j h1 h2 => ?_) q
  have k := g j (by simpa using h1) (by simpa using h2)
  simpa using k
theorem cmp_ok (hu : X.A.units + 65 < cLine) (op : CmpOp) : OpR X (compareOp op) (rCmp X.K (cmpD op)) := by
  rintro pins s σ H x y v u Q I rx ry ⟨N, d, e, k, h1, h2, hf, q⟩
  unfold cmpD at hf
  split at hf
  · obtain ⟨p, q', xs, ys, rfl, rfl, a1, a2, d1, d2, r, hr, rfl⟩ := dct_eq I rx ry h1 h2 hf hu
    exact eqD_ a1 a2 d1 d2 (by omega) hr ⟨.bl _, H, I, rfl, q⟩
  · obtain ⟨z, hz, rfl⟩ := Option.map_eq_some_iff.mp hf
    obtain ⟨p, q', xs, ys, rfl, rfl, a1, a2, d1, d2, r, hr, rfl⟩ := dct_eq I rx ry h1 h2 hz hu
    exact neD_ a1 a2 d1 d2 (by omega) hr ⟨.bl _, H, I, rfl, q⟩
  · unfold neL at hf
    split at hf
    · rename_i z hz
      cases hf
      obtain ⟨c1, c2, rfl⟩ := eqD_some hz
      exact op_neD (by omega) pins s σ H _ _ v u Q I rx ry ⟨_, _, h1.shape c1, h2.shape c2, c1, c2, q⟩
    · split at hf
      · rename_i c
        cases hf
        exact lst_ne I hu rx ry h1 h2 c ⟨.bl _, H, I, rfl, q⟩
      · cases hf
  · obtain ⟨c1, c2, rfl⟩ := eqD_some hf
    exact op_eqD (by omega) pins s σ H _ _ v u Q I rx ry ⟨_, _, h1.shape c1, h2.shape c2, c1, c2, q⟩
  · obtain ⟨z, hz, rfl⟩ := Option.map_eq_some_iff.mp hf
    obtain ⟨c1, c2, rfl⟩ := eqD_some hz
    exact op_neD (by omega) pins s σ H _ _ v u Q I rx ry ⟨_, _, h1.shape c1, h2.shape c2, c1, c2, q⟩
  · cases hf; cases h1; cases h2
    exact op_lt pins s σ H _ _ v u Q I rx ry ⟨_, _, rfl, rfl, q⟩
  · cases hf; cases h1; cases h2
    exact op_le pins s σ H _ _ v u Q I rx ry ⟨_, _, rfl, rfl, q⟩
  · cases hf; cases h1; cases h2
    exact op_gt pins s σ H _ _ v u Q I rx ry ⟨_, _, rfl, rfl, q⟩
  · cases hf; cases h1; cases h2
    exact op_ge pins s σ H _ _ v u Q I rx ry ⟨_, _, rfl, rfl, q⟩
  · cases hf; cases h2
    exact op_isN pins s σ H _ _ v u Q I rx ry ⟨rfl, by rw [h1.rp.isN]; exact q⟩
  · cases hf; cases h2
    exact op_notN pins s σ H _ _ v u Q I rx ry ⟨rfl, by rw [h1.rp.isN]; exact q⟩
  · cases hf; cases h1; cases h2
    exact op_isBl pins s σ H _ _ v u Q I rx ry ⟨_, _, rfl, rfl, q⟩
  · cases hf; cases h1; cases h2
    exact op_notBl pins s σ H _ _ v u Q I rx ry ⟨_, _, rfl, rfl, q⟩
  · split at hf
    · rename_i c
      cases hf
      obtain ⟨c1, c2⟩ := Bool.and_eq_true_iff.mp c
      exact op_inD hu pins s σ H _ _ v u Q I rx ry ⟨_, _, h1.shape c1, h2.shape c2, c1, c2, q⟩
    · cases hf
  · split at hf
    · rename_i c
      cases hf
      obtain ⟨c1, c2⟩ := Bool.and_eq_true_iff.mp c
      exact op_notInD hu pins s σ H _ _ v u Q I rx ry ⟨_, _, h1.shape c1, h2.shape c2, c1, c2, q⟩
    · cases hf
  · split at hf
    · rename_i c
      cases hf
      obtain ⟨c1, c2⟩ := Bool.and_eq_true_iff.mp c
      obtain ⟨as, r1⟩ := Dp.reads I _ _ v (h1.shape c1) rx
      obtain ⟨bs, r2⟩ := Dp.reads I _ _ u (h2.shape c2) ry
      exact SeqAt.in_tuple_reads r2 r1 (SeqAt.canLay_of_shaped c2) (SeqAt.canLay_of_shaped c1) (room_in_tup c1 c2 hu) ⟨.bl _, H, I, rfl, q⟩
    · cases hf
  · split at hf
    · rename_i c
      cases hf
      obtain ⟨c1, c2⟩ := Bool.and_eq_true_iff.mp c
      obtain ⟨as, r1⟩ := Dp.reads I _ _ v (h1.shape c1) rx
      obtain ⟨bs, r2⟩ := Dp.reads I _ _ u (h2.shape c2) ry
      exact SeqAt.notIn_tuple_reads r2 r1 (SeqAt.canLay_of_shaped c2) (SeqAt.canLay_of_shaped c1) (room_in_tup c1 c2 hu) ⟨.bl _, H, I, rfl, q⟩
    · cases hf
  · obtain ⟨n, m, e1, e2, rfl⟩ := inT_some hf
    obtain ⟨b, rfl, sq⟩ := h1.key e1
    obtain ⟨p, o, xs, rfl, hp, dd, r⟩ := h2.dct e2
    cases rx
    cases ry
    exact in_D (by omega) I hp dd r (hid_le.sqT sq) fun s' I' => ⟨.bl _, H, I', rfl, q⟩
  · obtain ⟨z, hz, rfl⟩ := Option.map_eq_some_iff.mp hf
    obtain ⟨n, m, e1, e2, rfl⟩ := inT_some hz
    obtain ⟨b, rfl, sq⟩ := h1.key e1
    obtain ⟨p, o, xs, rfl, hp, dd, r⟩ := h2.dct e2
    cases rx
    cases ry
    exact notIn_D (by omega) I hp dd r (hid_le.sqT sq) fun s' I' => ⟨.bl _, H, I', rfl, q⟩
  · cases hf

/-! ### items, slices -/
theorem atI_len {α β : Type} {xs : List α} {ys : List β} (e : xs.length = ys.length) {i : Int} {y : β} (h : atI ys i = some y) : ∃ j, ixN xs.length i = some j ∧ ys[j]? = some y := by
  unfold atI at h
  cases q : ixN ys.length i with
  | none => rw [q] at h; cases h
  | some j => rw [q] at h; exact ⟨j, by rw [e]; exact q, h⟩
theorem RpA.atI {K : PySem.W.Frag} {H : Hp} {vs : List V} {ds : List D} (h : RpA K H vs ds) {i : Int} {d : D} (e : L2.atI ds i = some d) : ∃ v, L2.atI vs i = some v ∧ Rp K H v d := by
  obtain ⟨j, e1, e2⟩ := atI_len h.length e
  obtain ⟨v, e3, r⟩ := h.get e2
  exact ⟨v, by unfold L2.atI; rw [e1]; exact e3, r⟩
def rIx (K : PySem.W.Frag) : R2 := fun x y H Q => ∃ N d e r, Rd_ K N H x d ∧ Rd_ K N H y e ∧ ixD d e = some r ∧ ∀ v, Rp K (Hid N H) v r → Q v H
theorem ix_ok (hu : X.A.units + 65 < cLine) : IxR X (rIx X.K) := by
  rintro value slice pins s σ H x y v u Q I rx ry ⟨N, d, e, r, h1, h2, hf, q⟩ hs
  unfold ixD at hf
  split at hf
  · obtain ⟨n, m, e1, e2, e3⟩ := ixT_some hf
    obtain ⟨b, rfl, sq⟩ := h2.key e1
    obtain ⟨p, o, xs, rfl, hp, dd, rr⟩ := h1.dct e2
    cases rx
    cases ry
    have l := rr.look n
    rw [e3] at l
    obtain ⟨z, w', l1, l2, l3⟩ := l
    have D := dctH I hp dd rr
    exact subscriptTail_builtinR (x := z.2) D.typeIs PySem.F.slot_dict_getitem.lookup
      (wpAny_getItem_heap (Q := fun r s' => r = z.2 ∧ EP X pins σ Q r s') (knd := KI X) (show X.A.units + 1 < cLine by omega) (tkey I (hid_le.sqT sq)) D l1 ⟨rfl, ⟨w', H, I.tok _, l2, q _ l3⟩⟩) hs
  · cases h2
    obtain ⟨p, vs, rfl, a, b⟩ := h1
    obtain ⟨w', e1, r1⟩ := b.atI hf
    exact ix_list value slice pins s σ H _ _ v u Q I rx ry ⟨_, _, _, _, rfl, rfl, a.sqL, e1, q _ r1⟩ hs
  · cases h2
    cases h1 with
    | tup a b =>
      obtain ⟨w', e1, r1⟩ := b.atI hf
      exact ix_tup value slice pins s σ H _ _ v u Q I rx ry ⟨_, _, _, _, rfl, rfl, hid_le.sqT a, e1, q _ r1⟩ hs
  · cases hf
theorem RpA.cut {K : PySem.W.Frag} {H : Hp} {vs : List V} {ds : List D} (h : RpA K H vs ds) (lo hi : Option Int) : RpA K H (cutV vs lo hi) (cutD ds lo hi) := by
  unfold cutV cutD
  rw [h.length]
  exact (h.drop _).take _
def rSl (K : PySem.W.Frag) : V → Option Int → Option Int → Hp → VK → Prop := fun x lo hi H Q => ∃ N d r, Dm N H ∧ Rd_ K N H x d ∧ slD d lo hi = some r ∧ Give K N H r Q
theorem cut_all {α : Type} {xs : List α} {lo hi : Option Int} (h : HT.sIx xs.length 0 lo = 0 ∧ HT.sIx xs.length xs.length hi = xs.length) : cutD xs lo hi = xs := by
  unfold cutD
  rw [h.1, h.2, List.drop_zero, Nat.sub_zero, List.take_length]
theorem sl_ok : SlR X (rSl X.K) := by
  rintro pins s σ H x v vl vu lo hi sl Q I rx hs pl pu ⟨N, d, r, hN, h1, hf, g⟩
  unfold slD at hf
  split at hf
  · cases hf
    obtain ⟨p, vs, rfl, a, b⟩ := h1
    exact sl_list pins s σ H _ v vl vu lo hi sl Q I rx hs pl pu ⟨_, _, rfl, a.sqL, fun z hz => g z _ hz (hN.lst hz (b.cut lo hi))⟩
  · cases hf
    cases h1 with
    | tup a b =>
      refine sl_tupA pins s σ H _ v vl vu lo hi sl Q I rx hs pl pu ⟨_, _, rfl, hid_le.sqT a, fun z => ?_, fun _ p hp => g.2 p _ hp (hN.tup hp (b.cut lo hi))⟩
      rw [b.length] at z
      rw [cut_all z] at g
      exact g.1 _ (.tup a b)
  · cases hf

/-! ### built-in functions -/
inductive RdA (K : PySem.W.Frag) (N : NS) (H : Hp) : List V → List D → Prop
  | nil : RdA K N H [] []
  | cons {v : V} {vs : List V} {d : D} {ds : List D} : Rd_ K N H v d → RdA K N H vs ds → RdA K N H (v :: vs) (d :: ds)
def rBf (K : PySem.W.Frag) (b : Bf) : List V → Hp → VK → Prop := fun xs H Q => ∃ N ds r, Dm N H ∧ RdA K N H xs ds ∧ bfD b ds = some r ∧ Give K N H r Q
def Bf.name : Bf → Str
  | .len => "len"
  | .abs => "abs"
  | .max => "max"
  | .min => "min"
  | .int => "int"
  | .tuple => "tuple"
  | .list => "list"
  | .all => "all"
  | .str => "str"
  | .sum => "sum"
  | .dict => "dict"
def Bf.val : Bf → Value
  | .len => .builtin "len"
  | .abs => .builtin "abs"
  | .max => .builtin "max"
  | .min => .builtin "min"
  | .int => .type "int"
  | .tuple => .type "tuple"
  | .list => .type "list"
  | .all => .builtin "all"
  | .str => .type "str"
  | .sum => .builtin "sum"
  | .dict => .type "dict"
theorem mxI_max : ∀ {ns : List Int} {i : Int}, mxI ns = some i → i ∈ ns ∧ ∀ y ∈ ns, y ≤ i
  | a :: r, i, e => by
    have go : ∀ (r : List Int) (a : Int), (r.foldl (fun k q => if k < q then q else k) a ∈ a :: r) ∧ ∀ y ∈ a :: r, y ≤ r.foldl (fun k q => if k < q then q else k) a := by
      intro r
      induction r with
      | nil => intro a; exact ⟨List.mem_cons_self, fun y hy => by rw [List.mem_singleton.mp hy]; exact Int.le_refl _⟩
      | cons b r ih =>
        intro a
        rw [List.foldl_cons]
        by_cases c : a < b
        · rw [if_pos c]
          obtain ⟨i1, i2⟩ := ih b
          refine ⟨List.mem_cons_of_mem _ i1, fun y hy => ?_⟩
          rcases List.mem_cons.mp hy with rfl | hy
          · exact Int.le_trans (Int.le_of_lt c) (i2 b List.mem_cons_self)
          · exact i2 y hy
        · rw [if_neg c]
          obtain ⟨i1, i2⟩ := ih a
          refine ⟨(List.mem_cons.mp i1).elim (fun z => List.mem_cons.mpr (.inl z)) (fun z => List.mem_cons_of_mem _ (List.mem_cons_of_mem _ z)), fun y hy => ?_⟩
          rcases List.mem_cons.mp hy with rfl | hy
          · exact i2 y List.mem_cons_self
          · rcases List.mem_cons.mp hy with rfl | hy
            · exact Int.le_trans (Int.not_lt.mp c) (i2 a List.mem_cons_self)
            · exact i2 y (List.mem_cons_of_mem _ hy)
    cases (show some _ = some i from e)
    exact go r a
theorem bf_ok (hc : X.calm = true) (hu : X.A.units + 65 < cLine) (b : Bf) : CallR X b.val (rBf X.K b) := by
  rintro pins s σ H xs us Q I rx ⟨N, ds, r, hN, h, hf, g⟩
  unfold bfD at hf
  split at hf
  · cases hf
    cases h with
    | cons h1 t =>
      cases t
      obtain ⟨p, vs, rfl, a, b⟩ := h1
      exact call_len_seq pins s σ H _ us Q I rx ⟨_, _, rfl, .inl (a.sqL), by rw [b.length]; exact g.int⟩
  · cases hf
    cases h with
    | cons h1 t =>
      cases t
      cases h1 with
      | tup a b => exact call_len_seq pins s σ H _ us Q I rx ⟨_, _, rfl, .inr (hid_le.sqT a), by rw [b.length]; exact g.int⟩
  · cases hf
    cases h with
    | cons h1 t =>
      cases t
      cases h1
      exact call_abs pins s σ H _ us Q I rx ⟨_, rfl, g.int⟩
  · cases hf
    cases h with
    | cons h1 t =>
      cases t with
      | cons h2 t =>
        cases t; cases h1; cases h2
        exact call_max2 hc pins s σ H _ us Q I rx ⟨_, _, rfl, g.int⟩
  · cases hf
    cases h with
    | cons h1 t =>
      cases t with
      | cons h2 t =>
        cases t; cases h1; cases h2
        exact call_min2 hc pins s σ H _ us Q I rx ⟨_, _, rfl, g.int⟩
  · cases hf
    cases h with
    | cons h1 t =>
      cases t; cases h1
      exact call_int1 pins s σ H _ us Q I rx (.inl ⟨_, rfl, g.int⟩)
  · cases hf
    cases h with
    | cons h1 t =>
      cases t; cases h1
      exact call_int1 pins s σ H _ us Q I rx (.inr ⟨_, rfl, g.int⟩)
  · cases hf
    cases h with
    | cons h1 t =>
      cases t
      obtain ⟨p, vs, rfl, a, b⟩ := h1
      exact call_tuple_of pins s σ H _ us Q I rx ⟨_, _, rfl, .inl ⟨a.sqL, fun z hz => g.2 z _ hz (hN.tup hz b)⟩⟩
  · cases hf
    cases h with
    | cons h1 t =>
      cases t
      cases h1 with
      | tup a b => exact call_tuple_of pins s σ H _ us Q I rx ⟨_, _, rfl, .inr ⟨hid_le.sqT a, g.1 _ (.tup a b)⟩⟩
  · cases hf
    cases h with
    | cons h1 t =>
      cases t
      obtain ⟨p, vs, rfl, a, b⟩ := h1
      exact call_list_of pins s σ H _ us Q I rx ⟨_, _, rfl, .inl (a.sqL), fun z hz => g z _ hz (hN.lst hz b)⟩
  · cases hf
    cases h with
    | cons h1 t =>
      cases t
      cases h1 with
      | tup a b => exact call_list_of pins s σ H _ us Q I rx ⟨_, _, rfl, .inr (hid_le.sqT a), fun z hz => g z _ hz (hN.lst hz b)⟩
  · obtain ⟨k, hk, e⟩ := Option.map_eq_some_iff.mp hf
    cases e
    cases h with
    | cons h1 t =>
      cases t
      obtain ⟨p, vs, rfl, a, b⟩ := h1
      obtain ⟨bs, rfl, rfl⟩ := b.bools hk
      exact cr_all hc pins s σ H _ us Q I rx ⟨_, _, rfl, a.sqL, g.bl⟩
  · split at hf
    · rename_i hz
      cases hf
      cases h with
      | cons h1 t =>
        cases t
        cases h1
        exact call_str_int pins s σ H _ us Q I rx ⟨_, rfl, hz, g.1 _ (.str _)⟩
    · cases hf
  · obtain ⟨m, hm, e⟩ := Option.map_eq_some_iff.mp hf
    cases e
    cases h with
    | cons h1 t =>
      cases t
      obtain ⟨p, o, ys, rfl, hp, dd, rr⟩ := h1.dct hm
      obtain rfl := Vals.ref1 rx
      exact len_D I hp dd rr fun t s' I' => ⟨.int _, H, I', ⟨_, rfl⟩, g.int⟩
  · obtain ⟨m, hm, e⟩ := Option.bind_eq_some_iff.mp hf
    obtain ⟨k, hk, e⟩ := Option.map_eq_some_iff.mp e
    cases e
    cases h with
    | cons h1 t =>
      cases t
      obtain ⟨p, o, ys, rfl, hp, dd, rr⟩ := h1.dct hm
      obtain rfl := Vals.ref1 rx
      exact max_D (I.ok.hd hc) hu I hp dd rr hk fun b s' I' sq => ⟨.ref b, H, I', rfl, g.1 _ (Rp.keyT sq)⟩
  · obtain ⟨ns, hm, e⟩ := Option.bind_eq_some_iff.mp hf
    obtain ⟨i, hk, e⟩ := Option.map_eq_some_iff.mp e
    cases e
    cases h with
    | cons h1 t =>
      cases t
      obtain ⟨p, vs, rfl, a, b⟩ := h1
      cases b.ints hm
      obtain ⟨m1, m2⟩ := mxI_max hk
      refine cr_max hc pins s σ H _ us Q I rx ⟨_, ns, rfl, a.sqL, List.length_pos_of_mem m1, fun m hm hy => ?_⟩
      have e : m = i := Int.le_antisymm (m2 m hm) (hy i m1)
      rw [e]
      exact g.int
  · obtain ⟨ns, hm, e⟩ := Option.map_eq_some_iff.mp hf
    cases e
    cases h with
    | cons h1 t =>
      cases t
      cases h1 with
      | tup a b =>
        cases b.ints hm
        obtain rfl := Vals.ref1 rx
        exact sum_T (I.ok.hd hc) I (hid_le.sqT a) fun t s' I' => ⟨.int _, H, I', ⟨_, rfl⟩, g.int⟩
  · obtain ⟨m, hm, e⟩ := Option.bind_eq_some_iff.mp hf
    split at e
    · rename_i hn
      cases e
      cases h with
      | cons h1 t =>
        cases t
        obtain ⟨p, o, ys, rfl, hp, dd, rr⟩ := h1.dct hm
        obtain rfl := Vals.ref1 rx
        have nd := unlike_nodup hn
        exact dict_of_dict hu I hp dd rr nd fun o' s' hf I' d' => ⟨.ref _, _, I', rfl, g _ _ hf (.inl ⟨o', ys, upd_same, d', (rr.mono (hN.leAd hf)).toE⟩)⟩
    · cases e
  · obtain ⟨m, hm, e⟩ := Option.map_eq_some_iff.mp hf
    cases e
    cases h with
    | cons h1 t =>
      cases t
      obtain ⟨p, vs, rfl, a, b⟩ := h1
      obtain rfl := Vals.ref1 rx
      exact dict_of_pairs (I.ok.hd hc) hu I a b hm fun o' ys s' hf I' d' rr => ⟨.ref _, _, I', rfl, g _ _ hf (.inl ⟨o', ys, upd_same, d', (rr.mono (hN.leAd hf)).toE⟩)⟩
  · cases hf

/-! ### isinstance -/
def Ty.name : Ty → String
  | .int => "int"
  | .bool => "bool"
  | .tuple => "tuple"
  | .list => "list"
  | .str => "str"
  | .dict => "dict"
def Kn.name : Kn → String
  | .none => "NoneType"
  | .bool => "bool"
  | .int => "int"
  | .str => "str"
  | .list => "list"
  | .tuple => "tuple"
  | .dict => "dict"
abbrev kindD (d : D) : String := (knOf d).name
/-- what something is, dicts with tuples for keys too -/
def TyY (K : PySem.W.Frag) (H : Hp) (v : V) (t : Value) : Prop := TyX K H v t ∨ ∃ a o xs, v = .ref a ∧ t = .type "dict" ∧ H a = some (ExO a o) ∧ DOb a o xs
theorem TyY.kit {X : Cx} {pins : List (Addr × Obj)} {σ : L2.St} {H : Hp} {s : Shared} {x : V} {u t : Value} (I : Inv X pins σ H s) (rx : RelV x u) (ty : TyY X.K H x t) : ∃ P : Heap → Prop, PySem.W.KitX X.K u t P ∧ P s.heap ∧ u ≠ .builtin "__main__.__loader__#opaque" := by
  rcases ty with ty | ⟨a, o, xs, rfl, rfl, hp, dd⟩
  · exact kit_of I rx ty
  · cases (show u = Value.ref a from rx)
    exact ⟨_, PySem.W.kitx_dict, ⟨o, (I.hok a _ hp).1, dd.ex.1⟩, fun z => nomatch z⟩
def rIsY (K : PySem.W.Frag) : List V → Hp → VK → Prop := fun xs H Q => ∃ (x c : V) (t u : Value) (b : Bool), xs = [x, c] ∧ ClsV c u ∧ TyY K H x t ∧ PySem.W.kitOne K t u = some b ∧ Q (.bl b) H
def rIsYT (K : PySem.W.Frag) : List V → Hp → VK → Prop := fun xs H Q => ∃ (x : V) (tp : Addr) (cs : List V) (t : Value) (us : List Value) (b : Bool), xs = [x, .ref tp] ∧ H tp = some (.tup cs) ∧ Paired ClsV cs us ∧ TyY K H x t ∧ PySem.W.kitAny K t us = some b ∧ Q (.bl b) H
theorem call_isY {X : Cx} : CallR X (.builtin "isinstance") (rIsY X.K) := by
  intro pins s σ H xs us Q I r h
  obtain ⟨x, c, t, u, b, rfl, k, ty, e, q⟩ := h
  obtain ⟨u1, u2, rfl, r1, r2⟩ := vals2 r
  have e2 := k.eq r2
  subst e2
  obtain ⟨P, Z, p, hx⟩ := ty.kit I r1
  exact PySem.W.kia_one Z I.kIn p e hx fun tk => ⟨.bl b, H, I.tok tk, rfl, q⟩
theorem call_isYT {X : Cx} : CallR X (.builtin "isinstance") (rIsYT X.K) := by
  intro pins s σ H xs us Q I r h
  obtain ⟨x, tp, cs, t, ws, b, rfl, hT, k, ty, e, q⟩ := h
  obtain ⟨u1, u2, rfl, r1, r2⟩ := vals2 r
  cases (show u2 = Value.ref tp from r2)
  obtain ⟨P, Z, p, hx⟩ := ty.kit I r1
  obtain ⟨_, its, rv, o, h1, h2, n, h3⟩ := (show ObjOk X.prog X.w H s.heap tp (.tup cs) from I.hok tp _ hT)
  have e3 := ClsV.all k rv
  subst e3
  obtain ⟨oc, od, dt, sl⟩ := o
  simp only at h2 h3
  subst h2 h3
  exact PySem.W.kia_tup Z I.kIn p h1 e hx fun tk => ⟨.bl b, H, I.tok tk, rfl, q⟩
theorem Rd_.ty {K : PySem.W.Frag} {N : NS} {H : Hp} {v : V} {d : D} (h : Rd_ K N H v d) : TyY K H v (.type (kindD d)) := by
  have r := h.rp
  cases r with
  | non => exact .inl (.base .non)
  | bl b => exact .inl (.base (.bl b))
  | int i => exact .inl (.base (.int i))
  | str x => exact .inl (.base (.str x))
  | lst a b =>
    rcases a with (a | ⟨o, a⟩) | ⟨its, e, _⟩
    · exact .inl (.base (.lst a))
    · exact .inl (.base (.frz a))
    · exact .inl (.kList e rfl)
  | tup a b =>
    rcases a with (a | ⟨o, a⟩) | ⟨o, its, n, e, c, _⟩
    · exact .inl (.base (.tup a))
    · exact .inl (.fTuple a)
    · exact .inl (.kTuple e c)
  | dE a c b => exact .inr ⟨_, _, _, rfl, rfl, a, c⟩
  | dK a n b => exact .inl (.base (.dK a))
theorem kit_ok (K : PySem.W.Frag) (d : D) (t : Ty) : PySem.W.kitOne K (.type (kindD d)) (.type t.name) = some (isTy d t) := by
  unfold isTy kindD
  generalize knOf d = k
  cases k <;> cases t <;> exact kit_ty (by decide +kernel)
theorem kitAny_ok (K : PySem.W.Frag) (d : D) : ∀ ts : List Ty, PySem.W.kitAny K (.type (kindD d)) (ts.map fun (t : Ty) => Value.type t.name) = some (ts.any (isTy d))
  | [] => rfl
  | t :: ts => by
    show (match PySem.W.kitOne K (.type (kindD d)) (.type t.name) with
      | some true => some true
      | some false => PySem.W.kitAny K (.type (kindD d)) (ts.map fun (t : Ty) => Value.type t.name)
      | none => none) = _
    rw [kit_ok, List.any_cons]
    cases isTy d t with
    | true => rfl
    | false => exact kitAny_ok K d ts
end
end Hg
set_option Elab.async false
set_option linter.all false
set_option maxRecDepth 100000
set_option maxHeartbeats 400000
/-! Does a piece of text say what a term says? -/
namespace Hg
open PySem PySem.Spec L2
/-- where a piece of text stands -/
structure Sx where
  sc : Scope
  N : List Str
  /-- names that the module does not bind -/
  free : List Str
  fn : Nat → Option Str
  exn : Nat → Option Str
  /-- cells that this block made -/
  own : Str → Bool
  /-- lambdas may be made here -/
  lm : Bool
  /-- defs that tell a lambda's refusal: the errors' numbers -/
  rf : Nat → Option (List Nat)
  /-- the module's tables, by text -/
  tbs : List (Str × List (Str × Int))
def okName (x : Str) : Bool := !(x == ("__debug__" : Str)) && !(x == ("__classdict__" : Str)) && !(x == ("__name__" : Str))
def visB (sc : Scope) (x : Str) : Bool := match sc.names.lookup x with
  | some .local => true
  | some .cell => true
  | some .free => true
  | _ => false
def glB (sc : Scope) (x : Str) : Bool := match sc.names.lookup x with
  | some .globalImplicit => true
  | _ => false
def Sx.var (x : Sx) (i : Nat) (n : Str) : Bool := decide (x.N[i]? = some n) && visB x.sc n && okName n
def Sx.glo (x : Sx) (n : Str) : Bool := glB x.sc n && okName n
def Sx.blt (x : Sx) (n : Str) : Bool := x.glo n && x.free.contains n
def Sx.tgt (x : Sx) (i : Nat) (n : Str) : Bool := decide (x.N[i]? = some n) && (match x.sc.names.lookup n with
  | some .local => true
  | some .cell => x.own n
  | _ => false) && okName n
def Sx.loc (x : Sx) (i : Nat) (n : Str) : Bool := decide (x.N[i]? = some n) && (match x.sc.names.lookup n with
  | some .local => true
  | _ => false) && okName n
def noSet : Expr → Bool
  | .Set .. => false
  | _ => true
def Sx.ty (x : Sx) (t : Ty) : Expr → Bool
  | .Name n _ => decide (n = Str.ofString t.name) && x.blt n
  | _ => false
def Sx.tys (x : Sx) : List Ty → List Expr → Bool
  | [], [] => true
  | t :: ts, e :: es => x.ty t e && x.tys ts es
  | _, _ => false
def Sx.tyE (x : Sx) (ts : List Ty) (e : Expr) : Bool := match ts, e with
  | [t], .Name n p => x.ty t (.Name n p)
  | _, .Tuple es _ _ => x.tys ts es
  | _, _ => false
def Sx.blk (x : Sx) (scope : Scope) : Sx := { x with sc := relS scope x.sc, lm := false, own := fun n => scope.names.lookup n == some .cell }
def Sx.lam (x : Sx) (scope : Scope) : Sx := { x with sc := scope, fn := fun _ => none, own := fun _ => false, lm := false }
def noPar : Arguments → Bool
  | ⟨[], [], none, [], [], none, []⟩ => true
  | _ => false
def ownP (N : List Str) (own : List Nat) : List (Str × Nat) := own.map fun i => (N.getD i Str.empty, i)
mutual
def chT (x : Sx) : Tg → Expr → Bool
  | .name i, e => match e with
    | .Name n _ => x.tgt i n
    | _ => false
  | .tup ts, e => match e with
    | .Tuple es _ _ => chTs x ts es
    | _ => false
def chTs (x : Sx) : Tgs → List Expr → Bool
  | .nil, es => match es with
    | [] => true
    | _ => false
  | .cons t ts, es => match es with
    | e :: es => chT x t e && chTs x ts es
    | _ => false
end
mutual
def tgIx : Tg → List Nat
  | .name i => [i]
  | .tup ts => tgsIx ts
def tgsIx : Tgs → List Nat
  | .nil => []
  | .cons t ts => tgIx t ++ tgsIx ts
end
def isName : Expr → Bool
  | .Name _ _ => true
  | _ => false
/-- a test of it is its value's truth -/
def stdT : Expr → Bool
  | .Call .. => true
  | .Subscript .. => true
  | .Name .. => true
  | _ => false
def isBlT : Ex → Bool
  | .bl true => true
  | _ => false
def keyC (y : Str) : Expr → Bool
  | .Constant (.str x) _ _ => decide (x = y)
  | _ => false
/-- keys and values by turns -/
def interE : List (Option Expr) → List Expr → List Expr
  | some k :: ks, v :: vs => k :: v :: interE ks vs
  | _, _ => []
/-- keys of a display: texts -/
def chKs : List Str → List (Option Expr) → Bool
  | [], es => es.isEmpty
  | y :: ys, es => match es with
    | some e :: r => keyC y e && chKs ys r
    | _ => false
mutual
def chE (x : Sx) : Ex → Expr → Bool
  | .var i, e => match e with
    | .Name n _ => x.var i n
    | _ => false
  | .int i, e => match e with
    | .Constant (.int j) _ _ => decide (i = j)
    | _ => false
  | .str i, e => match e with
    | .Constant (.str j) _ _ => decide (i = j)
    | _ => false
  | .bl i, e => match e with
    | .Constant (.bool j) _ _ => decide (i = j)
    | _ => false
  | .non, e => match e with
    | .Constant .none _ _ => true
    | _ => false
  | .glo g, e => match e with
    | .Name n _ => decide (g = n) && x.glo n
    | _ => false
  | .bin op a b, e => match e with
    | .BinOp l o r _ => decide (op = o) && chE x a l && chE x b r
    | _ => false
  | .neg a, e => match e with
    | .UnaryOp o l _ => decide (o = .USub) && chE x a l
    | _ => false
  | .cmp op a b, e => match e with
    | .Compare l [o] [r] _ => decide (op = o) && chE x a l && chE x b r
    | _ => false
  | .chain o p a b c, e => match e with
    | .Compare l [o', p'] [m, r] _ => decide (o = o') && decide (p = p') && chE x a l && chE x b m && chE x c r
    | _ => false
  | .and es, e => match e with
    | .BoolOp o (l :: ls) _ => decide (o = .And) && chEs x es (l :: ls)
    | _ => false
  | .or es, e => match e with
    | .BoolOp o (l :: ls) _ => decide (o = .Or) && chEs x es (l :: ls)
    | _ => false
  | .orv a b, e => match e with
    | .BoolOp .Or [l, r] _ => stdT l && chE x a l && chE x b r
    | _ => false
  | .not a, e => match e with
    | .UnaryOp o l _ => decide (o = .Not) && chE x a l
    | _ => false
  | .ife c a b, e => match e with
    | .IfExp t l r _ => chE x c t && chE x a l && chE x b r
    | _ => false
  | .ix a i, e => match e with
    | .Subscript l r _ => chE x a l && chE x i r
    | _ => false
  | .dix a i, e => match e with
    | .Subscript l r _ => chE x a l && chE x i r
    | _ => false
  | .dget a b c, e => match e with
    | .Call (.Attribute l m ap) [r1, r2] kw cp => kw.isEmpty && decide (m = "get") && isName l && chE x a l && chE x b r1 && chE x c r2 && (ap.endLine == cp.line)
    | _ => false
  | .lset a, e => match e with
    | .Call (.Name n _) [.Call (.Name m _) [l] kw2 _] kw _ => kw.isEmpty && kw2.isEmpty && decide (n = "len") && decide (m = "set") && x.blt n && x.blt m && chE x a l
    | _ => false
  | .cget g tab a, e => match e with
    | .Call (.Attribute (.Name n _) m ap) [l] kw cp => kw.isEmpty && decide (m = "get") && decide (g = n) && x.glo n && x.tbs.contains (g, tab) && chE x a l && (ap.endLine == cp.line)
    | _ => false
  | .sl a lo hi, e => match e with
    | .Subscript l (.Slice l1 l2 l3 _) _ => l3.isNone && chE x a l && (match l1 with
      | none => isNon lo
      | some e1 => !isNon lo && chE x lo e1) && (match l2 with
      | none => isNon hi
      | some e2 => !isNon hi && chE x hi e2)
    | _ => false
  | .rev a, e => match e with
    | .Subscript l (.Slice none none (some (.UnaryOp .USub (.Constant (.int 1) _ _) _)) _) _ => chE x a l
    | _ => false
  | .tup es, e => match e with
    | .Tuple l _ _ => chEs x es l
    | _ => false
  | .lst es, e => match e with
    | .List l _ => chEs x es l
    | _ => false
  | .dic ks vs, e => match e with
    | .Dict keys l _ => (match keysE ks with
      | some ys => chKs ys keys
      | none => false) && chEs x vs l && decide (keys.length = l.length)
    | _ => false
  | .dtk es, e => match e with
    | .Dict keys l _ => keys.all (·.isSome) && decide (keys.length = l.length) && !keys.isEmpty && chEs x es (interE keys l)
    | _ => false
  | .call f es, e => match e with
    | .Call (.Name n _) l kw _ => kw.isEmpty && decide (x.fn f = some n) && x.glo n && chEs x es l
    | _ => false
  | .bf b es, e => match e with
    | .Call (.Name n _) (l :: ls) kw _ => kw.isEmpty && decide (b.name = n) && x.blt n && chEs x es (l :: ls)
    | _ => false
  | .isi a ts, e => match e with
    | .Call (.Name n _) [l, r] kw _ => kw.isEmpty && decide (n = "isinstance") && x.blt n && chE x a l && x.tyE ts r && decide (ts.length ≤ 10)
    | _ => false
  | .lc src tg c el own, e => match e with
    | .ListComp el' [⟨t, it, ifs, k⟩] scope _ => decide (k = 0) && blkC x.N x.sc scope (ownP x.N own) && chS x src t it && chT (x.blk scope) tg t && ((tgIx tg).all fun i => own.contains i) && (match ifs with
      | [] => isBlT c
      | [c'] => chE (x.blk scope) c c'
      | _ => false) && chE (x.blk scope) el el'
    | _ => false
  | .lcl i tg c el own, e => match e with
    | .ListComp el' [⟨t, it, ifs, k⟩] scope _ => decide (k = 0) && blkC x.N x.sc scope (ownP x.N own) && (match it with
      | .Name n _ => x.var i n
      | _ => false) && chT (x.blk scope) tg t && ((tgIx tg).all fun i => own.contains i) && (match ifs with
      | [] => isBlT c
      | [c'] => chE (x.blk scope) c c'
      | _ => false) && chE (x.blk scope) el el'
    | _ => false
  | .pop i a, e => match e with
    | .Call (.Attribute (.Name n _) m ap) [l] kw cp => kw.isEmpty && decide (m = "pop") && x.var i n && chE x a l && (ap.endLine == cp.line)
    | _ => false
  | .app i a, e => match e with
    | .Call (.Attribute (.Name n _) m ap) [l] kw cp => kw.isEmpty && decide (m = "append") && x.var i n && chE x a l && (ap.endLine == cp.line)
    | _ => false
  | .ext i a, e => match e with
    | .Call (.Attribute (.Name n _) m ap) [l] kw cp => kw.isEmpty && decide (m = "extend") && x.var i n && chE x a l && (ap.endLine == cp.line)
    | _ => false
  | .ins i k a, e => match e with
    | .Call (.Attribute (.Name n _) m ap) [l1, l] kw cp => kw.isEmpty && decide (m = "insert") && x.var i n && chE x k l1 && chE x a l && (ap.endLine == cp.line)
    | _ => false
  | .rfd r g es ks, e => match e with
    | .Call (.Name n _) [.Lambda params (.Call (.Name m _) l kw2 _) scope _] kw _ => kw.isEmpty && x.lm && decide (x.fn r = some n) && x.glo n && decide (x.rf r = some ks) && noPar params && LamX.lamSB x.sc scope && kw2.isEmpty && decide (x.fn g = some m) && (x.lam scope).glo m && chEs (x.lam scope) es l
    | _ => false
def chEs (x : Sx) : Exs → List Expr → Bool
  | .nil, l => match l with
    | [] => true
    | _ => false
  | .cons a as, l => match l with
    | e :: es => chE x a e && chEs x as es
    | _ => false
def chS (x : Sx) : Src → Expr → Expr → Bool
  | .seq a, _, e => chE x a e
  | .rng as, _, e => match e with
    | .Call (.Name n _) l kw _ => kw.isEmpty && decide (n = "range") && x.blt n && chEs x as l && (l.length == 1 || l.length == 2)
    | _ => false
  | .zip a b, t, e => match t, e with
    | .Tuple _ _ _, .Call (.Name n _) [l, r] kw _ => kw.isEmpty && decide (n = "zip") && x.blt n && chE x a l && chE x b r
    | _, _ => false
  | .enu a, t, e => match t, e with
    | .Tuple _ _ _, .Call (.Name n _) [l] kw _ => kw.isEmpty && decide (n = "enumerate") && x.blt n && chE x a l
    | _, _ => false
  | .rvd a, _, e => match e with
    | .Call (.Name n _) [l] kw _ => kw.isEmpty && decide (n = "reversed") && x.blt n && chE x a l
    | _ => false
  | .vals a, _, e => match e with
    | .Call (.Attribute l m ap) [] kw cp => kw.isEmpty && decide (m = "values") && isName l && chE x a l && (ap.endLine == cp.line)
    | _ => false
end
end Hg
set_option Elab.async false
set_option linter.all false
set_option maxRecDepth 100000
set_option maxHeartbeats 400000
/-! Calls: what a callee sees, what lies behind. -/
namespace Hg
open PySem PySem.Spec PyProof.Rows L2
inductive AgA (K : PySem.W.Frag) (N : NS) (H : Hp) (σ : L2.St) : List V → List Ag → Prop
  | nil : AgA K N H σ [] []
  | d {v : V} {vs : List V} {d : D} {as : List Ag} : Rp K (Hid N H) v d → AgA K N H σ vs as → AgA K N H σ (v :: vs) (.d d :: as)
  | io {v : V} {vs : List V} {i : Nat} {as : List Ag} : σ[i]? = some (some v) → AgA K N H σ vs as → AgA K N H σ (v :: vs) (.io i :: as)
structure AftA (K : PySem.W.Frag) (F : NS) (s : S) (σ : L2.St) (H : Hp) (as : List Ag) (s' : S) (vs : List V) (H' : Hp) : Prop where
  ok : StOk K F s' σ H'
  fr : Fr F (Nn F s σ) H (Nn F s' σ) H'
  rp : AgA K (Nn F s' σ) H' σ vs as
section
variable {K : PySem.W.Frag} {F N N1 : NS} {s s1 s' : S} {σ : L2.St} {H H1 H' : Hp}
theorem AgA.mono (l : Le (Hid N H) (Hid N1 H1)) : ∀ {vs : List V} {as : List Ag}, AgA K N H σ vs as → AgA K N1 H1 σ vs as
  | _, _, .nil => .nil
  | _, _, .d a b => .d (Rp.mono l _ _ a) (AgA.mono l b)
  | _, _, .io a b => .io a (AgA.mono l b)
theorem ioSl_some {i : Nat} {x : Sl} (h : ioSl s i = some x) : ∃ o, x = .ow o ∧ s[i]? = some (.ow o) := by
  unfold ioSl at h
  split at h
  · rename_i o q
    cases h
    exact ⟨o, rfl, q⟩
  · cases h
theorem argSls_cons {a : Ag} {r : List Ag} {l : List Sl} (h : argSls s (a :: r) = some l) : ∃ x xs, l = x :: xs ∧ argSl s a = some x ∧ argSls s r = some xs := by
  unfold argSls at h
  cases q : argSl s a with
  | none => rw [q] at h; cases h
  | some x =>
    rw [q] at h
    cases z : argSls s r with
    | none => rw [z] at h; cases h
    | some xs => rw [z] at h; cases h; exact ⟨x, xs, rfl, rfl, rfl⟩
/-- each place of the callee's -/
theorem arg_at : ∀ {vs : List V} {as : List Ag} {l : List Sl}, AgA K N H σ vs as → argSls s as = some l → l.length = vs.length ∧ ∀ (j : Nat) (x : Sl), l[j]? = some x →
    ∃ v, vs[j]? = some v ∧ ((∃ d, x = .sh d ∧ Rp K (Hid N H) v d) ∨ ∃ i o, x = .ow o ∧ as[j]? = some (.io i) ∧ s[i]? = some (.ow o) ∧ σ[i]? = some (some v) ∧ i ∈ ioIx as)
  | _, _, l, .nil, h => by
    have h : some [] = some l := h
    cases h
    exact ⟨rfl, fun j x e => by simp at e⟩
  | _, _, l, .d (v := v) (d := d) a b, h => by
    obtain ⟨x, xs, rfl, h1, h2⟩ := argSls_cons h
    cases (show some (Sl.sh d) = some x from h1)
    obtain ⟨l1, l2⟩ := arg_at b h2
    refine ⟨congrArg Nat.succ l1, fun j y e => ?_⟩
    cases j with
    | zero =>
      cases (show some (Sl.sh d) = some y from e)
      exact ⟨v, rfl, .inl ⟨d, rfl, a⟩⟩
    | succ j =>
      obtain ⟨w, e1, e2⟩ := l2 j y (by simpa using e)
      refine ⟨w, by simpa using e1, e2.imp id ?_⟩
      rintro ⟨i, o, z1, z2, z3, z4, z5⟩
      exact ⟨i, o, z1, by simpa using z2, z3, z4, z5⟩
  | _, _, l, .io (v := v) (i := i) a b, h => by
    obtain ⟨x, xs, rfl, h1, h2⟩ := argSls_cons h
    obtain ⟨o, rfl, ho⟩ := ioSl_some h1
    obtain ⟨l1, l2⟩ := arg_at b h2
    refine ⟨congrArg Nat.succ l1, fun j y e => ?_⟩
    cases j with
    | zero =>
      cases (show some (Sl.ow o) = some y from e)
      exact ⟨v, rfl, .inr ⟨i, o, rfl, rfl, ho, a, List.mem_cons_self⟩⟩
    | succ j =>
      obtain ⟨w, e1, e2⟩ := l2 j y (by simpa using e)
      refine ⟨w, by simpa using e1, e2.imp id ?_⟩
      rintro ⟨i', o', z1, z2, z3, z4, z5⟩
      exact ⟨i', o', z1, by simpa using z2, z3, z4, List.mem_cons_of_mem _ z5⟩
/-- each in-out slot is a place of the callee's -/
theorem io_at : ∀ {vs : List V} {as : List Ag} {l : List Sl} {i : Nat}, AgA K N H σ vs as → argSls s as = some l → i ∈ ioIx as → ∃ (j : Nat) (v : V) (o : Ob), as[j]? = some (.io i) ∧ l[j]? = some (.ow o) ∧ s[i]? = some (.ow o) ∧ vs[j]? = some v ∧ σ[i]? = some (some v)
  | _, _, _, _, .nil, _, hi => by cases hi
  | _, _, l, i, .d (v := v) (d := d) a b, h, hi => by
    obtain ⟨x, xs, rfl, h1, h2⟩ := argSls_cons h
    obtain ⟨j, w, o, e0, e1, e2, e3, e4⟩ := io_at b h2 hi
    exact ⟨j + 1, w, o, by simpa using e0, by simpa using e1, e2, by simpa using e3, e4⟩
  | _, _, l, i, .io (v := v) (i := k) a b, h, hi => by
    obtain ⟨x, xs, rfl, h1, h2⟩ := argSls_cons h
    obtain ⟨o, rfl, ho⟩ := ioSl_some h1
    rcases List.mem_cons.mp (show i ∈ k :: ioIx _ from hi) with e | hi
    · subst e
      exact ⟨0, v, o, rfl, rfl, ho, rfl, a⟩
    · obtain ⟨j, w, o, e0, e1, e2, e3, e4⟩ := io_at b h2 hi
      exact ⟨j + 1, w, o, by simpa using e0, by simpa using e1, e2, by simpa using e3, e4⟩
theorem ioIx_one : ∀ {as : List Ag} {j j' : Nat} {i : Nat}, (ioIx as).Nodup → as[j]? = some (.io i) → as[j']? = some (.io i) → j = j'
  | [], j, _, _, _, h, _ => by simp at h
  | .d d :: r, 0, _, _, _, h, _ => by simp at h
  | .d d :: r, j + 1, 0, _, _, _, h => by simp at h
  | .d d :: r, j + 1, j' + 1, i, nd, h, h' => congrArg Nat.succ (ioIx_one (as := r) nd (by simpa using h) (by simpa using h'))
  | .io k :: r, 0, 0, _, _, _, _ => rfl
  | .io k :: r, 0, j' + 1, i, nd, h, h' => by
    have e : k = i := by simpa using h
    subst e
    have m : ∀ {r : List Ag} {j : Nat}, r[j]? = some (.io k) → k ∈ ioIx r := by
      intro r
      induction r with
      | nil => intro j h; simp at h
      | cons a r ih =>
        intro j h
        cases j with
        | zero =>
          cases (show some a = some (Ag.io k) from h)
          exact List.mem_cons_self
        | succ j =>
          have z := ih (j := j) (by simpa using h)
          cases a with
          | d d => exact z
          | io i => exact List.mem_cons_of_mem _ z
    exact absurd (m (j := j') (by simpa using h')) (List.nodup_cons.mp nd).1
  | .io k :: r, j + 1, 0, i, nd, h, h' => (ioIx_one (as := .io k :: r) (j := 0) (j' := j + 1) nd h' h).symm
  | .io k :: r, j + 1, j' + 1, i, nd, h, h' => congrArg Nat.succ (ioIx_one (as := r) (List.nodup_cons.mp nd).2 (by simpa using h) (by simpa using h'))
/-- what is hidden from the callee: the slots that are not handed in -/
def Fc (F : NS) (s : S) (σ : L2.St) (ix : List Nat) : NS := fun b => F b ∨ (Own s σ b ∧ ¬ ∃ i, i ∈ ix ∧ σ[i]? = some (some (.ref b)))
theorem get_map {vs : List V} {j : Nat} {v : V} (h : vs[j]? = some v) : (vs.map some)[j]? = some (some v) := by rw [List.getElem?_map, h]; rfl
theorem of_get_map {vs : List V} {j : Nat} {v : V} (h : (vs.map some)[j]? = some (some v)) : vs[j]? = some v := by
  rw [List.getElem?_map] at h
  cases q : vs[j]? with
  | none => rw [q] at h; cases h
  | some w => rw [q] at h; cases h; rfl
theorem own_call {as : List Ag} {l : List Sl} {vs : List V} (a : AgA K N H σ vs as) (e : argSls s as = some l) (b : Addr) : Own l (vs.map some) b ↔ ∃ i, i ∈ ioIx as ∧ σ[i]? = some (some (.ref b)) := by
  constructor
  · rintro ⟨j, o, h1, h2⟩
    obtain ⟨v, e1, z⟩ := (arg_at a e).2 j _ h1
    rw [get_map e1] at h2
    cases h2
    rcases z with ⟨d, z, _⟩ | ⟨i, o', _, _, _, z4, z5⟩
    · cases z
    · exact ⟨i, z5, z4⟩
  · rintro ⟨i, hi, h⟩
    obtain ⟨j, v, o, _, e1, _, e3, e4⟩ := io_at a e hi
    rw [h] at e4
    cases e4
    exact ⟨j, o, e1, get_map e3⟩
theorem io_own {as : List Ag} {l : List Sl} {vs : List V} (a : AgA K N H σ vs as) (e : argSls s as = some l) {i : Nat} (hi : i ∈ ioIx as) {b : Addr} (h : σ[i]? = some (some (.ref b))) : Own s σ b := by
  obtain ⟨j, v, o, _, _, e2, _, e4⟩ := io_at a e hi
  exact ⟨i, o, e2, h⟩
theorem nn_call {as : List Ag} {l : List Sl} {vs : List V} (a : AgA K N H σ vs as) (e : argSls s as = some l) : Nn (Fc F s σ (ioIx as)) l (vs.map some) = Nn F s σ := by
  funext b
  apply propext
  constructor
  · rintro ((z | z) | z)
    · exact .inl z
    · exact .inr z.1
    · obtain ⟨i, hi, h⟩ := (own_call a e b).mp z
      exact .inr (io_own a e hi h)
  · rintro (z | z)
    · exact .inl (.inl z)
    · by_cases q : ∃ i, i ∈ ioIx as ∧ σ[i]? = some (some (.ref b))
      · exact .inr ((own_call a e b).mpr q)
      · exact .inl (.inr ⟨z, q⟩)
/-- the callee's slots -/
theorem call_in {as : List Ag} {l : List Sl} {vs : List V} (k : StOk K F s σ H) (a : AgA K (Nn F s σ) H σ vs as) (e : argSls s as = some l) (nd : (ioIx as).Nodup) : StOk K (Fc F s σ (ioIx as)) l (vs.map some) H := by
  obtain ⟨hl, at_⟩ := arg_at a e
  refine ⟨by rw [List.length_map]; exact hl, fun j d h => ?_, fun j o h => ?_, fun j j' o o' p h h' g g' => ?_, fun b h z => ?_, fun b z => ?_, k.tb⟩
  · obtain ⟨v, e1, z⟩ := at_ j _ h
    rcases z with ⟨d', z, r⟩ | ⟨i, o', z, _⟩
    · cases z
      exact ⟨v, get_map e1, by rw [nn_call a e]; exact r⟩
    · cases z
  · obtain ⟨v, e1, z⟩ := at_ j _ h
    rcases z with ⟨d', z, r⟩ | ⟨i, o', z, _, z3, z4, _⟩
    · cases z
    · cases z
      obtain ⟨p, q1, q2⟩ := k.ow i o z3
      rw [z4] at q1
      cases q1
      exact ⟨p, get_map e1, by rw [nn_call a e]; exact q2⟩
  · obtain ⟨v, e1, z⟩ := at_ j _ h
    obtain ⟨v', e1', z'⟩ := at_ j' _ h'
    rcases z with ⟨d', z, r⟩ | ⟨i, u, z, z2, z3, z4, _⟩
    · cases z
    · rcases z' with ⟨d', z', r⟩ | ⟨i', u', z', z2', z3', z4', _⟩
      · cases z'
      · have g1 := of_get_map g
        have g2 := of_get_map g'
        rw [e1] at g1
        rw [e1'] at g2
        cases g1
        cases g2
        have ei := k.inj i i' u u' p z3 z3' z4 z4'
        subst ei
        exact ioIx_one nd z2 z2'
  · rcases z with z | ⟨_, z⟩
    · obtain ⟨i, hi, h⟩ := (own_call a e b).mp h
      exact k.ap b (io_own a e hi h) z
    · exact z ((own_call a e b).mp h)
  · rcases z with z | ⟨z, _⟩
    · exact k.dom b z
    · exact k.own' z
theorem putOuts_len : ∀ (ix : List Nat) (outs : List Ob) (s : S), (putOuts s ix outs).length = s.length
  | [], _, _ => by unfold putOuts; rfl
  | _ :: _, [], _ => by unfold putOuts; rfl
  | i :: ix, o :: outs, s => by
    show (putOuts (s.set i (.ow o)) ix outs).length = _
    rw [putOuts_len ix outs, List.length_set]
theorem putOuts_ne : ∀ (ix : List Nat) (outs : List Ob) (s : S) {i : Nat}, i ∉ ix → (putOuts s ix outs)[i]? = s[i]?
  | [], _, _, _, _ => by unfold putOuts; rfl
  | _ :: _, [], _, _, _ => by unfold putOuts; rfl
  | j :: ix, o :: outs, s, i, h => by
    show (putOuts (s.set j (.ow o)) ix outs)[i]? = _
    rw [putOuts_ne ix outs _ (fun z => h (List.mem_cons_of_mem _ z)), List.getElem?_set_ne (fun z => h (by rw [z]; exact List.mem_cons_self))]
/-- place by place: what the callee leaves is what the caller has -/
theorem outs_at : ∀ {vs : List V} {as : List Ag} {l : List Sl} {outs : List Ob} {t : S}, AgA K N H σ vs as → argSls s as = some l → (ioIx as).Nodup → outs.length = (ioIx as).length → t.length = s.length →
    (∀ i, i ∈ ioIx as → ∃ (j : Nat) (o : Ob), as[j]? = some (.io i) ∧ (outS l outs)[j]? = some (.ow o) ∧ (putOuts t (ioIx as) outs)[i]? = some (.ow o))
  | _, _, l, outs, t, .nil, h, nd, hl, ht => fun i hi => by cases hi
  | _, _, l, outs, t, .d (v := v) (d := d) a b, h, nd, hl, ht => fun i hi => by
    obtain ⟨x, xs, rfl, h1, h2⟩ := argSls_cons h
    cases (show some (Sl.sh d) = some x from h1)
    obtain ⟨j, o, e1, e2, e3⟩ := outs_at (t := t) (outs := outs) b h2 nd hl ht i hi
    exact ⟨j + 1, o, by simpa using e1, by show (Sl.sh d :: outS xs outs)[j + 1]? = _; simpa using e2, e3⟩
  | _, _, l, outs, t, .io (v := v) (i := k) a b, h, nd, hl, ht => fun i hi => by
    obtain ⟨x, xs, rfl, h1, h2⟩ := argSls_cons h
    obtain ⟨o, rfl, ho⟩ := ioSl_some h1
    cases outs with
    | nil => cases hl
    | cons u outs =>
      obtain ⟨n1, n2⟩ := List.nodup_cons.mp nd
      rcases List.mem_cons.mp (show i ∈ k :: ioIx _ from hi) with e | hi
      · subst e
        refine ⟨0, u, rfl, rfl, ?_⟩
        show (putOuts (t.set i (.ow u)) (ioIx _) outs)[i]? = _
        rw [putOuts_ne _ _ _ n1, List.getElem?_set_self (by rw [ht]; exact get_lt ho)]
      · obtain ⟨j, o', e1, e2, e3⟩ := outs_at (t := t.set k (.ow u)) (outs := outs) b h2 n2 (Nat.succ.inj (show outs.length.succ = (ioIx _).length.succ from hl)) (by rw [List.length_set]; exact ht) i hi
        exact ⟨j + 1, o', by simpa using e1, by show (Sl.ow u :: outS xs outs)[j + 1]? = _; simpa using e2, e3⟩
theorem outS_len : ∀ (l : List Sl) (outs : List Ob), (outS l outs).length = l.length
  | [], _ => rfl
  | .ow o :: l, [] => by show (Sl.ow o :: outS l []).length = _; rw [List.length_cons, outS_len, List.length_cons]
  | .ow o :: l, u :: outs => by show (Sl.ow u :: outS l outs).length = _; rw [List.length_cons, outS_len, List.length_cons]
  | .un :: l, outs => by show (Sl.un :: outS l outs).length = _; rw [List.length_cons, outS_len, List.length_cons]
  | .sh d :: l, outs => by show (Sl.sh d :: outS l outs).length = _; rw [List.length_cons, outS_len, List.length_cons]
theorem outS_ow : ∀ {l : List Sl} {outs : List Ob} {j : Nat} {o : Ob}, (outS l outs)[j]? = some (.ow o) → ∃ o', l[j]? = some (.ow o')
  | [], _, _, _, h => by
    have h : ([] : List Sl)[_]? = _ := h
    simp at h
  | .ow u :: l, [], 0, _, _ => ⟨u, rfl⟩
  | .ow u :: l, [], j + 1, o, h => by
    obtain ⟨o', e⟩ := outS_ow (l := l) (outs := []) (j := j) (o := o) (by
      have h : (Sl.ow u :: outS l [])[j + 1]? = _ := h
      simpa using h)
    exact ⟨o', by simpa using e⟩
  | .ow u :: l, w :: outs, 0, _, _ => ⟨u, rfl⟩
  | .ow u :: l, w :: outs, j + 1, o, h => by
    obtain ⟨o', e⟩ := outS_ow (l := l) (outs := outs) (j := j) (o := o) (by
      have h : (Sl.ow w :: outS l outs)[j + 1]? = _ := h
      simpa using h)
    exact ⟨o', by simpa using e⟩
  | .un :: l, outs, 0, o, h => by
    have h : some Sl.un = some (Sl.ow o) := h
    cases h
  | .un :: l, outs, j + 1, o, h => by
    obtain ⟨o', e⟩ := outS_ow (l := l) (outs := outs) (j := j) (o := o) (by
      have h : (Sl.un :: outS l outs)[j + 1]? = _ := h
      simpa using h)
    exact ⟨o', by simpa using e⟩
  | .sh d :: l, outs, 0, o, h => by
    have h : some (Sl.sh d) = some (Sl.ow o) := h
    cases h
  | .sh d :: l, outs, j + 1, o, h => by
    obtain ⟨o', e⟩ := outS_ow (l := l) (outs := outs) (j := j) (o := o) (by
      have h : (Sl.sh d :: outS l outs)[j + 1]? = _ := h
      simpa using h)
    exact ⟨o', by simpa using e⟩
theorem own_out {as : List Ag} {l : List Sl} {vs : List V} {outs : List Ob} (a : AgA K N H σ vs as) (e : argSls s as = some l) (nd : (ioIx as).Nodup) (ho : outs.length = (ioIx as).length) (b : Addr) :
    Own (outS l outs) (vs.map some) b ↔ ∃ i, i ∈ ioIx as ∧ σ[i]? = some (some (.ref b)) := by
  rw [← own_call a e b]
  constructor
  · rintro ⟨j, o, h1, h2⟩
    obtain ⟨o', h⟩ := outS_ow h1
    exact ⟨j, o', h, h2⟩
  · rintro z
    obtain ⟨i, hi, h⟩ := (own_call a e b).mp z
    obtain ⟨j, o, e1, e2, _⟩ := outs_at (t := s) a e nd ho rfl i hi
    obtain ⟨j', v, o', f0, f1, _, f3, f4⟩ := io_at a e hi
    have ej := ioIx_one nd e1 f0
    subst ej
    rw [h] at f4
    cases f4
    exact ⟨j, o, e2, get_map f3⟩
theorem own_put {as : List Ag} {l : List Sl} {vs : List V} {outs : List Ob} (a : AgA K N H σ vs as) (e : argSls s as = some l) (nd : (ioIx as).Nodup) (ho : outs.length = (ioIx as).length) (b : Addr) : Own (putOuts s (ioIx as) outs) σ b ↔ Own s σ b := by
  constructor
  · rintro ⟨i, o, h1, h2⟩
    by_cases hi : i ∈ ioIx as
    · exact io_own a e hi h2
    · rw [putOuts_ne _ _ _ hi] at h1
      exact ⟨i, o, h1, h2⟩
  · rintro ⟨i, o, h1, h2⟩
    by_cases hi : i ∈ ioIx as
    · obtain ⟨j, o', _, _, e3⟩ := outs_at (t := s) a e nd ho rfl i hi
      exact ⟨i, o', e3, h2⟩
    · exact ⟨i, o, by rw [putOuts_ne _ _ _ hi]; exact h1, h2⟩
theorem nn_put {as : List Ag} {l : List Sl} {vs : List V} {outs : List Ob} (a : AgA K N H σ vs as) (e : argSls s as = some l) (nd : (ioIx as).Nodup) (ho : outs.length = (ioIx as).length) : Nn F (putOuts s (ioIx as) outs) σ = Nn F s σ := by
  funext b
  exact propext (or_congr Iff.rfl (own_put a e nd ho b))
/-- F': what is hidden besides F (a new owned thing, or nothing more) -/
theorem nn_out {as : List Ag} {l : List Sl} {vs : List V} {outs : List Ob} (a : AgA K N H σ vs as) (e : argSls s as = some l) (nd : (ioIx as).Nodup) (ho : outs.length = (ioIx as).length) :
    Nn (Fc F s σ (ioIx as)) (outS l outs) (vs.map some) = Nn F (putOuts s (ioIx as) outs) σ := by
  rw [nn_put a e nd ho, ← nn_call a e]
  funext b
  exact propext (or_congr Iff.rfl ((own_out a e nd ho b).trans (own_call a e b).symm))
/-- the caller's slots behind the call; P: a place more that is kept apart -/
theorem call_ok {G : NS} {as : List Ag} {l : List Sl} {vs : List V} {outs : List Ob} {Gc : NS} (k : StOk K F s σ H) (a : AgA K (Nn F s σ) H σ vs as) (e : argSls s as = some l) (nd : (ioIx as).Nodup) (ho : outs.length = (ioIx as).length)
    (hG : ∀ b, F b → G b) (hGc : ∀ b, Gc b ↔ G b ∨ (Own s σ b ∧ ¬ ∃ i, i ∈ ioIx as ∧ σ[i]? = some (some (.ref b)))) (hdis : ∀ b, Own s σ b → ¬ G b)
    (k' : StOk K Gc (outS l outs) (vs.map some) H') (f : Fr (Fc F s σ (ioIx as)) (Nn F s σ) H (Nn Gc (outS l outs) (vs.map some)) H') : StOk K G (putOuts s (ioIx as) outs) σ H' ∧ Nn Gc (outS l outs) (vs.map some) = Nn G (putOuts s (ioIx as) outs) σ := by
  have enn : Nn Gc (outS l outs) (vs.map some) = Nn G (putOuts s (ioIx as) outs) σ := by
    funext b
    apply propext
    constructor
    · rintro (z | z)
      · rcases (hGc b).mp z with z | ⟨z, _⟩
        · exact .inl z
        · exact .inr ((own_put a e nd ho b).mpr z)
      · obtain ⟨i, hi, h⟩ := (own_out a e nd ho b).mp z
        exact .inr ((own_put a e nd ho b).mpr (io_own a e hi h))
    · rintro (z | z)
      · exact .inl ((hGc b).mpr (.inl z))
      · have z := (own_put a e nd ho b).mp z
        by_cases q : ∃ i, i ∈ ioIx as ∧ σ[i]? = some (some (.ref b))
        · exact .inr ((own_out a e nd ho b).mpr q)
        · exact .inl ((hGc b).mpr (.inr ⟨z, q⟩))
  refine ⟨⟨by rw [putOuts_len]; exact k.len, fun i d h => ?_, fun i o h => ?_, fun i j o o' p h h' g g' => ?_, fun b h z => hdis b ((own_put a e nd ho b).mp h) z, fun b z => k'.dom b ((hGc b).mpr (.inl z)), k'.tb⟩, enn⟩
  · by_cases hi : i ∈ ioIx as
    · obtain ⟨j, o', _, _, e3⟩ := outs_at (t := s) a e nd ho rfl i hi
      rw [e3] at h
      cases h
    · rw [putOuts_ne _ _ _ hi] at h
      obtain ⟨v, e1, r⟩ := k.sh i d h
      refine ⟨v, e1, Rp.mono ?_ _ _ r⟩
      rw [← enn]
      exact f.le
  · by_cases hi : i ∈ ioIx as
    · obtain ⟨j, o', e1, e2, e3⟩ := outs_at (t := s) a e nd ho rfl i hi
      rw [e3] at h
      cases h
      obtain ⟨j', v, o2, f0, f1, _, f3, f4⟩ := io_at a e hi
      have ej := ioIx_one nd e1 f0
      subst ej
      obtain ⟨p, q1, q2⟩ := k'.ow j _ e2
      have q1 := of_get_map q1
      rw [f3] at q1
      cases q1
      exact ⟨p, f4, by rw [← enn]; exact q2⟩
    · rw [putOuts_ne _ _ _ hi] at h
      obtain ⟨p, q1, q2⟩ := k.ow i o h
      refine ⟨p, q1, q2.mono (f.keep p (.inr ⟨⟨i, o, h, q1⟩, ?_⟩)) (by rw [← enn]; exact f.le)⟩
      rintro ⟨i', hi', h'⟩
      obtain ⟨_, _, o', _, _, e2, _, _⟩ := io_at a e hi'
      have := k.inj i i' o o' p h e2 q1 h'
      subst this
      exact hi hi'
  · have own2 : ∀ {i : Nat} {o : Ob}, (putOuts s (ioIx as) outs)[i]? = some (.ow o) → ∃ u, s[i]? = some (.ow u) := fun {i o} h => by
      by_cases hi : i ∈ ioIx as
      · obtain ⟨_, _, u, _, _, e2, _, _⟩ := io_at a e hi
        exact ⟨u, e2⟩
      · rw [putOuts_ne _ _ _ hi] at h
        exact ⟨o, h⟩
    obtain ⟨u, hu⟩ := own2 h
    obtain ⟨u', hu'⟩ := own2 h'
    exact k.inj i j u u' p hu hu' g g'
theorem fr_call {as : List Ag} {l : List Sl} {vs : List V} {outs : List Ob} {Gc G : NS} (f : Fr (Fc F s σ (ioIx as)) (Nn F s σ) H (Nn Gc (outS l outs) (vs.map some)) H') (enn : Nn Gc (outS l outs) (vs.map some) = Nn G (putOuts s (ioIx as) outs) σ) :
    Fr F (Nn F s σ) H (Nn G (putOuts s (ioIx as) outs) σ) H' := by
  rw [enn] at f
  exact ⟨fun b z => f.keep b (.inl z), f.imm⟩
theorem call_out {as : List Ag} {l : List Sl} {vs : List V} {outs : List Ob} {r : Sl} {v : V} (k : StOk K F s σ H) (a : AgA K (Nn F s σ) H σ vs as) (e : argSls s as = some l) (nd : (ioIx as).Nodup) (ho : outs.length = (ioIx as).length)
    (h : AftS K (Fc F s σ (ioIx as)) l (vs.map some) H r (outS l outs) v H') : AftS K F s σ H r (putOuts s (ioIx as) outs) v H' := by
  have e0 : Nn (Fc F s σ (ioIx as)) l (vs.map some) = Nn F s σ := nn_call a e
  cases r with
  | un => exact h
  | sh d =>
    have f := AftD.fr h
    rw [e0] at f
    obtain ⟨k2, enn⟩ := call_ok (G := F) (Gc := Fc F s σ (ioIx as)) k a e nd ho (fun _ z => z) (fun b => Iff.rfl) k.ap (AftD.ok h) f
    exact ⟨k2, fr_call f enn, by rw [← enn]; exact AftD.rp h⟩
  | ow o =>
    obtain ⟨p, rfl, q⟩ := h
    have f := q.fr
    rw [e0] at f
    have hp : ¬ Fc F s σ (ioIx as) p := q.nf
    have npo : ¬ Own s σ p := fun z => by
      by_cases w : ∃ i, i ∈ ioIx as ∧ σ[i]? = some (some (.ref p))
      · exact q.ok.ap p ((own_out a e nd ho p).mpr w) (.inr rfl)
      · exact hp (.inr ⟨z, w⟩)
    obtain ⟨k2, enn⟩ := call_ok (G := Ad F p) (Gc := Ad (Fc F s σ (ioIx as)) p) k a e nd ho (fun _ z => .inl z) (fun b => by
      constructor
      · rintro ((z | z) | z)
        · exact .inl (.inl z)
        · exact .inr z
        · exact .inl (.inr z)
      · rintro ((z | z) | z)
        · exact .inl (.inl z)
        · exact .inr z
        · exact .inl (.inr z)) (fun b z w => w.elim (k.ap b z) (fun y => npo (y ▸ z))) q.ok f
    exact ⟨p, rfl, k2, fr_call f enn, fun z => hp (.inl z), by rw [← enn]; exact q.at_⟩
/-- a def's promise, by its run -/
def spF (K : PySem.W.Frag) (EC : Nat → Addr) (n : Nat) (run : List Sl → CR) : Sp := fun vs H Q E => ∃ F as, vs.length = n ∧ StOk K F as (vs.map some) H ∧
  Wp K EC (fun cls d _ H' => E cls d H') F as (vs.map some) H (runR run as) fun r s' => ∀ v H', AftS K F as (vs.map some) H r s' v H' → Q v H'
end
end Hg
set_option Elab.async false
set_option linter.all false
set_option maxRecDepth 100000
set_option maxHeartbeats 400000
/-! One rule a term. -/
namespace Hg
open PySem PySem.Spec PyProof.Rows L2
section
variable {X : Cx} {EC : Nat → Addr} {W : WX} {C : Cal} {e a b c : Expr} {es : List Expr} {m ma mb mc : M Sl} {pos : Pos} {ia ib : Ex}

/-! ### stars -/
def noStar : Expr → Bool
  | .Starred .. => false
  | _ => true
theorem star_cons (h : noStar e = true) (env : Env) : starEach (e :: es) env = (false, eval e env) :: starEach es env := by
  cases e <;> first | rfl | (cases h)
theorem star_all : ∀ (es : List Expr) (pos : Pos) (env : Env), es.all noStar = true → (backTo pos (starEach es env)).any (·.1) = false
  | [], _, _, _ => rfl
  | e :: es, pos, env, h => by
    rw [List.all_cons, Bool.and_eq_true] at h
    rw [star_cons h.1]
    have ih := star_all es pos env h.2
    show (false || (backTo pos (starEach es env)).any (·.1)) = false
    rw [ih] <;> rfl

/-! ### two operands -/
theorem E_bin (op : Operator) {oa ob : M Op} (ha : PE X a (tO X.K EC W oa)) (hb : PE X b (tO X.K EC W ob)) :
    PE X (.BinOp a op b pos) (tE X.K EC W (oa.bind fun x => ob.bind fun y => (resO x).bind fun d => (resO y).bind fun e => lift (binD op d e))) := peW (pe_op (bin_ok op) ha hb) fun σ H Q ⟨F, s, k, w⟩ =>
  ⟨F, s, k, w.bind.mono fun x s1 hx v H1 ax => by
    obtain ⟨k1, f1⟩ := ax.ok k
    refine ⟨F, s1, k1, ((hx.on f1).bind).mono fun y s2 hy u H2 ay => ?_⟩
    obtain ⟨k2, f2⟩ := ay.ok k1
    obtain ⟨d, e1, hy⟩ := (hy.on f2).res
    obtain ⟨d', e2, hy⟩ := hy.res
    obtain ⟨r, e3, hy⟩ := hy.lift
    refine ⟨Nn F s2 σ, d, d', r, fun _ => k2.nn, (ax.use k2 f2 e1).2, (ay.use k2 Fr.refl e2).2, e3, give_of k2 (fun v' H' z => hy v' H' (z.back (f1.trans f2))) ?_⟩
    rintro rfl
    revert e3
    unfold binD
    split <;> first | (split <;> exact fun z => nomatch z) | exact fun z => nomatch z⟩
theorem T_cmp (hu : X.A.units + 65 < cLine) (op : CmpOp) {oa ob : M Op} {σ : L2.St} {H : Hp} {Q : VK} (w : tE X.K EC W (oa.bind fun x => ob.bind fun y => (resO x).bind fun d => (resO y).bind fun e => lift ((cmpD op d e).map fun k => .sh (.bool k))) σ H Q) :
    tOp (rCmp X.K (cmpD op)) (tO X.K EC W oa) (tO X.K EC W ob) σ H Q := by
  obtain ⟨F, s, k, w⟩ := w
  refine ⟨F, s, k, w.bind.mono fun x s1 hx v H1 ax => ?_⟩
  obtain ⟨k1, f1⟩ := ax.ok k
  refine ⟨F, s1, k1, ((hx.on f1).bind).mono fun y s2 hy u H2 ay => ?_⟩
  obtain ⟨k2, f2⟩ := ay.ok k1
  obtain ⟨d, e1, hy⟩ := (hy.on f2).res
  obtain ⟨d', e2, hy⟩ := hy.res
  obtain ⟨r, e3, hy⟩ := hy.lift
  obtain ⟨q, e4, rfl⟩ := Option.map_eq_some_iff.mp e3
  exact ⟨Nn F s2 σ, d, d', q, (ax.use k2 f2 e1).2, (ay.use k2 Fr.refl e2).2, e4, hy _ _ ⟨k2, f1.trans f2, .bl q⟩⟩
/-- a test from a value -/
theorem tT_of {σ : L2.St} {H : Hp} {Q : Bool → Hp → Prop} (w : tBo X.K EC W (testM m) σ H Q) : tE X.K EC W m σ H fun x H' => ∃ k, x = .bl k ∧ Q k H' := by
  obtain ⟨F, s, k, w⟩ := w
  have w : Wp X.K EC W F s σ H (((frz m).bind fun d => match d with
    | .bool b => M.pure b
    | _ => bad) s) _ := w
  refine ⟨F, s, k, w.bind.bind.mono fun r s1 hr v H1 ar => ?_⟩
  obtain ⟨d, e, hr⟩ := hr.lift
  have ad := ar.data e
  cases d with
  | bool q =>
    have hr : ∀ H', AftB X.K F s σ H s1 H' → Q q H' := hr
    cases ad.rp
    exact ⟨q, rfl, hr H1 ⟨ad.ok, ad.fr⟩⟩
  | _ => exact hr.elim
theorem E_cmp (hu : X.A.units + 65 < cLine) (op : CmpOp) {oa ob : M Op} (ha : PE X a (tO X.K EC W oa)) (hb : PE X b (tO X.K EC W ob)) (hm : behindInMarks op b = false) :
    PE X (.Compare a [op] [b] pos) (tE X.K EC W (oa.bind fun x => ob.bind fun y => (resO x).bind fun d => (resO y).bind fun e => lift ((cmpD op d e).map fun k => .sh (.bool k)))) :=
  peW (pe_cmpR (cmp_ok hu op) ha hb hm) fun σ H Q w => T_cmp hu op w
theorem P_cmp (hu : X.A.units + 65 < cLine) (op : CmpOp) {oa ob : M Op} (ha : PE X a (tO X.K EC W oa)) (hb : PE X b (tO X.K EC W ob)) (hm : behindInMarks op b = false) :
    PT X (.Compare a [op] [b] pos) (tBo X.K EC W (testM (oa.bind fun x => ob.bind fun y => (resO x).bind fun d => (resO y).bind fun e => lift ((cmpD op d e).map fun k => .sh (.bool k))))) :=
  ptW (pt_cmpR (cmp_ok hu op) ha hb hm) fun σ H Q w => T_cmp hu op (tT_of w)
/-- a value as a test -/
theorem P_val (h : PE X e (tE X.K EC W m)) (he : ∀ whole, isTrue e X.env whole = (do let v ← whole; standAt e.pos; holding [v] (truthy v))) : PT X e (tBo X.K EC W (testM m)) :=
  ptW (pt_val h he) fun σ H Q w => tT_of w
/-- a test's value -/
theorem E_ofB {t : M Bool} {tt : TE} (h : PE X e tt) (w : ∀ σ H Q, (tBo X.K EC W t σ H fun b H' => Q (.bl b) H') → tt σ H Q) : PE X e (tE X.K EC W (t.bind bM)) := peW h fun σ H Q ⟨F, s, k, z⟩ => w σ H Q ⟨F, s, k, z.bind.mono fun b s1 hb H1 ab => by
  have hb : ∀ v H', AftS X.K F s σ H (.sh (.bool b)) s1 v H' → Q v H' := hb
  exact hb _ _ ⟨ab.ok, ab.fr, .bl b⟩⟩
theorem B_pure {σ : L2.St} {H : Hp} {Q : Bool → Hp → Prop} {k : Bool} (w : tBo X.K EC W (M.pure k) σ H Q) : Q k H := by
  obtain ⟨F, s, q, w⟩ := w
  exact w H ⟨q, Fr.refl⟩
/-- one test, then another -/
theorem B_bind {t : M Bool} {f : Bool → M Bool} {σ : L2.St} {H : Hp} {Q : Bool → Hp → Prop} (w : tBo X.K EC W (t.bind f) σ H Q) : tBo X.K EC W t σ H fun k H1 => tBo X.K EC W (f k) σ H1 Q := by
  obtain ⟨F, s, k, w⟩ := w
  exact ⟨F, s, k, w.bind.mono fun b s1 hb H1 ab => ⟨F, s1, ab.ok, (hb.on ab.fr).mono fun b2 s2 h2 H2 a2 => h2 H2 ⟨a2.ok, ab.fr.trans a2.fr⟩⟩⟩
theorem B_mono {t : M Bool} {σ : L2.St} {H : Hp} {Q Q' : Bool → Hp → Prop} (w : tBo X.K EC W t σ H Q) (h : ∀ b H', Q b H' → Q' b H') : tBo X.K EC W t σ H Q' := by
  obtain ⟨F, s, k, w⟩ := w
  exact ⟨F, s, k, w.mono fun b s1 hb H1 ab => h _ _ (hb H1 ab)⟩

theorem P_not (h : PT X a (tBo X.K EC W (testM m))) : PT X (.UnaryOp .Not a pos) (tBo X.K EC W (testM ((testM m).bind fun k => bM (!k)))) := ptW (pt_not h) fun σ H Q w => by
  obtain ⟨F, s, k, w⟩ := w
  have w : Wp X.K EC W F s σ H (((frz ((testM m).bind fun k => bM (!k))).bind fun d => match d with
    | .bool b => M.pure b
    | _ => bad) s) _ := w
  exact ⟨F, s, k, w.bind.bind.bind.mono fun b s1 hb H1 ab => hb H1 ab⟩
theorem E_not (h : PT X a (tBo X.K EC W (testM m))) (hv : PE X a (tE X.K EC W m)) : PE X (.UnaryOp .Not a pos) (tE X.K EC W ((testM m).bind fun k => bM (!k))) :=
  peW (pe_not hv) fun σ H Q ⟨F, s, k, w⟩ => tT_of (Q := fun b H' => Q (.bl (!b)) H') ⟨F, s, k, w.bind.mono fun b s1 hb H1 ab => hb _ _ ⟨ab.ok, ab.fr, .bl _⟩⟩
theorem E_ife (hc : PT X c (tBo X.K EC W (testM mc))) (ha : PE X a (tE X.K EC W ma)) (hb : PE X b (tE X.K EC W mb)) : PE X (.IfExp c a b pos) (tE X.K EC W ((testM mc).bind fun k => if k then ma else mb)) :=
  peW (pe_ifExp hc ha hb) fun σ H Q ⟨F, s, k, w⟩ => ⟨F, s, k, w.bind.mono fun q s1 hq H1 aq => by
    cases q with
    | true => exact ⟨F, s1, aq.ok, (hq.on aq.fr).mono fun r s2 hr v H2 ar => hr v H2 (ar.back aq.fr)⟩
    | false => exact ⟨F, s1, aq.ok, (hq.on aq.fr).mono fun r s2 hr v H2 ar => hr v H2 (ar.back aq.fr)⟩⟩
/-- any expression as a test that is looked at by its parts -/
theorem P_ife (hc : PT X c (tBo X.K EC W (testM mc))) (ha : PT X a (tBo X.K EC W (testM ma))) (hb : PT X b (tBo X.K EC W (testM mb))) (h : ∀ (t u v : TT), PT X c t → PT X a u → PT X b v → PT X (.IfExp c a b pos) (fun σ H Q => t σ H fun k H1 => if k = true then u σ H1 Q else v σ H1 Q)) :
    PT X (.IfExp c a b pos) (tBo X.K EC W (testM ((testM mc).bind fun k => if k then ma else mb))) := ptW (h _ _ _ hc ha hb) fun σ H Q ⟨F, s, k, w⟩ => by
  have w : Wp X.K EC W F s σ H (((frz ((testM mc).bind fun k => if k then ma else mb)).bind fun d => match d with
    | .bool b => M.pure b
    | _ => bad) s) _ := w
  refine ⟨F, s, k, ?_⟩
  have e : ((frz ((testM mc).bind fun k => if k then ma else mb)).bind fun d => match d with
    | .bool b => M.pure b
    | _ => bad) s = (testM mc s).bind fun q s1 => if q then testM ma s1 else testM mb s1 := by
    show ((((testM mc s).bind fun q s1 => (if q then ma else mb) s1).bind fun r s' => lift r.data s').bind _) = _
    cases testM mc s with
    | bad => rfl
    | err e s' => rfl
    | ok q s' => cases q <;> rfl
  rw [e] at w
  cases z : testM mc s with
  | bad => rw [z] at w; exact w.elim
  | err e s' => rw [z] at w; exact w
  | ok q s1 =>
    rw [z] at w
    intro H1 aq
    cases q with
    | true => exact ⟨F, s1, aq.ok, (Wp.on aq.fr w).mono fun r s2 hr H2 ar => hr H2 ⟨ar.ok, aq.fr.trans ar.fr⟩⟩
    | false => exact ⟨F, s1, aq.ok, (Wp.on aq.fr w).mono fun r s2 hr H2 ar => hr H2 ⟨ar.ok, aq.fr.trans ar.fr⟩⟩
end
end Hg
set_option Elab.async false
set_option linter.all false
set_option maxRecDepth 100000
set_option maxHeartbeats 400000
/-! One rule a term: the rest of the expressions. -/
namespace Hg
open PySem PySem.Spec PyProof.Rows L2
section
variable {X : Cx} {EC : Nat → Addr} {W : WX} {C : Cal} {e a b c : Expr} {es : List Expr} {m ma mb mc : M Sl} {pos : Pos} {ia ib : Ex}
theorem pt_ife {t u v : TT} (hc : PT X c t) (ha : PT X a u) (hb : PT X b v) : PT X (.IfExp c a b pos) (fun σ H Q => t σ H fun k H1 => if k = true then u σ H1 Q else v σ H1 Q) := by
  refine ⟨fun pins s σ H Q I h => ?_⟩
  rw [PySem.isTrue]
  refine wpAny_bind (thn (hc.run pins s σ H _ I h) fun d s1 ⟨H1, I1, q1⟩ => ?_)
  cases d with
  | true => exact ha.run pins s1 σ H1 Q I1 q1
  | false => exact hb.run pins s1 σ H1 Q I1 q1

/-! ### chains -/
theorem T_chain (o p : CmpOp) {σ : L2.St} {H : Hp} {Q : VK} (w : tE X.K EC W ((frz ma).bind fun x => (frz mb).bind fun y => (lift (cmpD o x y)).bind fun k => if k then (frz mc).bind fun z => lift ((cmpD p y z).map fun k => .sh (.bool k)) else bM false) σ H Q) :
    tChain (rCmp X.K (cmpD o)) (rCmp X.K (cmpD p)) (tD X.K EC W (frz ma)) (tD X.K EC W (frz mb)) (tD X.K EC W (frz mc)) σ H Q := by
  obtain ⟨F, s, k, w⟩ := w
  refine ⟨F, s, k, w.bind.mono fun x s1 hx v H1 ax => ?_⟩
  refine ⟨F, s1, ax.ok, ((hx.on ax.fr).bind).mono fun y s2 hy u H2 ay => ?_⟩
  have f2 := ax.fr.trans ay.fr
  obtain ⟨q, e1, hy⟩ := (hy.on ay.fr).bind.lift
  refine ⟨Nn F s2 σ, x, y, q, (Rp.mono ay.fr.le _ _ ax.rp).rd, ay.rp.rd, e1, q, rfl, ?_⟩
  cases q with
  | false =>
    have hy : ∀ v H', AftS X.K F s σ H (.sh (.bool false)) s2 v H' → Q v H' := hy
    exact hy _ _ ⟨ay.ok, f2, .bl false⟩
  | true =>
    refine ⟨F, s2, ay.ok, (hy.bind).mono fun z s3 hz z' H3 az => ?_⟩
    obtain ⟨r, e3, hz⟩ := hz.lift
    obtain ⟨q, e4, rfl⟩ := Option.map_eq_some_iff.mp e3
    exact ⟨Nn F s3 σ, y, z, q, (Rp.mono az.fr.le _ _ ay.rp).rd, az.rp.rd, e4, hz _ _ ⟨az.ok, f2.trans az.fr, .bl q⟩⟩
theorem E_chain (hu : X.A.units + 65 < cLine) (o p : CmpOp) (ha : PE X a (tE X.K EC W ma)) (hb : PE X b (tE X.K EC W mb)) (hc : PE X c (tE X.K EC W mc)) (hm : lastMarks [o, p] [b, c] = false) :
    PE X (.Compare a [o, p] [b, c] pos) (tE X.K EC W ((frz ma).bind fun x => (frz mb).bind fun y => (lift (cmpD o x y)).bind fun k => if k then (frz mc).bind fun z => lift ((cmpD p y z).map fun k => .sh (.bool k)) else bM false)) :=
  peW (pe_chain (cmp_ok hu o) (cmp_ok hu p) (pe_frz ha) (pe_frz hb) (pe_frz hc) hm) fun σ H Q w => T_chain o p w
theorem P_chain (hu : X.A.units + 65 < cLine) (o p : CmpOp) (ha : PE X a (tE X.K EC W ma)) (hb : PE X b (tE X.K EC W mb)) (hc : PE X c (tE X.K EC W mc)) (hm : lastMarks [o, p] [b, c] = false) :
    PT X (.Compare a [o, p] [b, c] pos) (tBo X.K EC W (testM ((frz ma).bind fun x => (frz mb).bind fun y => (lift (cmpD o x y)).bind fun k => if k then (frz mc).bind fun z => lift ((cmpD p y z).map fun k => .sh (.bool k)) else bM false))) :=
  ptW (pt_chain (cmp_ok hu o) (cmp_ok hu p) (pe_frz ha) (pe_frz hb) (pe_frz hc) hm) fun σ H Q w => T_chain o p (tT_of w)

/-! ### and, or -/
theorem P_and1 (h : PT X a (tBo X.K EC W (testM m))) : PW X (.BoolOp .And [a] pos) (tBo X.K EC W ((testM m).bind fun k => if k then M.pure true else M.pure false)) := pwW (pw_and1 h) fun σ H Q w => B_mono (B_bind w) fun b H' q => by
  cases b with
  | true => exact B_pure q
  | false => exact B_pure q
theorem P_and {t : M Bool} {rest : List Expr} (h : PT X a (tBo X.K EC W (testM m))) (h2 : PW X (.BoolOp .And (b :: rest) pos) (tBo X.K EC W t)) : PW X (.BoolOp .And (a :: b :: rest) pos) (tBo X.K EC W ((testM m).bind fun k => if k then t else M.pure false)) :=
  pwW (pw_and h h2) fun σ H Q w => B_mono (B_bind w) fun k H' q => by
    cases k with
    | true => exact q
    | false => exact B_pure q
theorem P_or1 (h : PT X a (tBo X.K EC W (testM m))) : PW X (.BoolOp .Or [a] pos) (tBo X.K EC W ((testM m).bind fun k => if k then M.pure true else M.pure false)) := pwW (pw_or1 h) fun σ H Q w => B_mono (B_bind w) fun b H' q => by
  cases b with
  | true => exact B_pure q
  | false => exact B_pure q
theorem P_or {t : M Bool} {rest : List Expr} (h : PT X a (tBo X.K EC W (testM m))) (h2 : PW X (.BoolOp .Or (b :: rest) pos) (tBo X.K EC W t)) : PW X (.BoolOp .Or (a :: b :: rest) pos) (tBo X.K EC W ((testM m).bind fun k => if k then M.pure true else t)) :=
  pwW (pw_or h h2) fun σ H Q w => B_mono (B_bind w) fun k H' q => by
    cases k with
    | true => exact B_pure q
    | false => exact q
/-- an expression that gives a truth -/
def tBv (X : Cx) (EC : Nat → Addr) (W : WX) (t : M Bool) : TE := fun σ H Q => tBo X.K EC W t σ H fun b H' => Q (.bl b) H'
theorem E_test (h : PE X a (tE X.K EC W m)) : PE X a (tBv X EC W (testM m)) := peW h fun σ H Q w => by
  obtain ⟨F, s, k, z⟩ := tT_of w
  exact ⟨F, s, k, z.mono fun r s1 hr v H1 ar => by
    obtain ⟨q, rfl, h⟩ := hr v H1 ar
    exact h⟩
theorem E_and1 (h : PE X a (tE X.K EC W m)) : PE X (.BoolOp .And [a] pos) (tBv X EC W ((testM m).bind fun k => if k then M.pure true else M.pure false)) := peW (pe_one (E_test h)) fun σ H Q w => B_mono (B_bind w) fun b H' q => by
  cases b with
  | true => exact B_pure q
  | false => exact B_pure q
theorem E_or1 (h : PE X a (tE X.K EC W m)) : PE X (.BoolOp .Or [a] pos) (tBv X EC W ((testM m).bind fun k => if k then M.pure true else M.pure false)) := peW (pe_one (E_test h)) fun σ H Q w => B_mono (B_bind w) fun b H' q => by
  cases b with
  | true => exact B_pure q
  | false => exact B_pure q
theorem E_and {t : M Bool} {rest : List Expr} (h : PE X a (tE X.K EC W m)) (h2 : PE X (.BoolOp .And (b :: rest) pos) (tBv X EC W t)) : PE X (.BoolOp .And (a :: b :: rest) pos) (tBv X EC W ((testM m).bind fun k => if k then t else M.pure false)) :=
  peW (pe_and (E_test h) h2) fun σ H Q w => B_mono (B_bind w) fun k H' q => by
    refine ⟨k, rfl, ?_⟩
    cases k with
    | true => exact q
    | false => exact B_pure q
theorem E_or {t : M Bool} {rest : List Expr} (h : PE X a (tE X.K EC W m)) (h2 : PE X (.BoolOp .Or (b :: rest) pos) (tBv X EC W t)) : PE X (.BoolOp .Or (a :: b :: rest) pos) (tBv X EC W ((testM m).bind fun k => if k then M.pure true else t)) :=
  peW (pe_or (E_test h) h2) fun σ H Q w => B_mono (B_bind w) fun k H' q => by
    refine ⟨k, rfl, ?_⟩
    cases k with
    | true => exact B_pure q
    | false => exact q
theorem testB {t : M Bool} : testM (t.bind bM) = t := by
  funext s
  show (((t s).bind fun b s' => R.ok (Sl.sh (.bool b)) s').bind _).bind _ = _
  cases t s <;> rfl

/-! ### items, slices, negatives -/
theorem E_neg (h : PE X a (tE X.K EC W m)) : PE X (.UnaryOp .USub a pos) (tE X.K EC W ((frz m).bind fun d => match d with
    | .int i => M.pure (.sh (.int (-i)))
    | _ => bad)) := peW (pe_un un_neg (pe_frz h)) fun σ H Q ⟨F, s, k, w⟩ => ⟨F, s, k, w.bind.mono fun d s1 hd v H1 ad => by
  cases d with
  | int i =>
    have hd : ∀ v H', AftS X.K F s σ H (.sh (.int (-i))) s1 v H' → Q v H' := hd
    cases ad.rp
    exact ⟨i, rfl, hd _ _ ⟨ad.ok, ad.fr, .int _⟩⟩
  | _ => exact hd.elim⟩
theorem E_ix {oa : M Op} (hu : X.A.units + 65 < cLine) (ha : PE X a (tO X.K EC W oa)) (hb : PE X b (tE X.K EC W mb)) (hp : PlainIx b) : PE X (.Subscript a b pos) (tE X.K EC W (oa.bind fun x => (frz mb).bind fun e => (resO x).bind fun d => lift ((ixD d e).map .sh))) :=
  peW (pe_ix (ix_ok hu) ha (pe_frz hb) hp) fun σ H Q ⟨F, s, k, w⟩ => ⟨F, s, k, w.bind.mono fun x s1 hx v H1 ax => by
    obtain ⟨k1, f1⟩ := ax.ok k
    refine ⟨F, s1, k1, ((hx.on f1).bind).mono fun y s2 hy u H2 ay => ?_⟩
    obtain ⟨d, e1, hy⟩ := (hy.on ay.fr).res
    obtain ⟨r, e3, hy⟩ := hy.lift
    obtain ⟨q, e4, rfl⟩ := Option.map_eq_some_iff.mp e3
    exact ⟨Nn F s2 σ, d, y, q, (ax.use ay.ok ay.fr e1).2, ay.rp.rd, e4, fun v' r' => hy v' H2 ⟨ay.ok, f1.trans ay.fr, r'⟩⟩⟩
def tOi (K : PySem.W.Frag) (EC : Nat → Addr) (W : WX) (m : M (Option Int)) : TO := fun σ H Q => ∃ F s, StOk K F s σ H ∧ Wp K EC W F s σ H (m s) fun o s' => ∀ H', AftB K F s σ H s' H' → Q o H'
theorem O_none {i : Ex} (h : isNon i = true) : PO X none (tOi X.K EC W (partM i m)) := by
  refine ⟨fun pins s σ H Q I q => po_none.run pins s σ H Q I ?_⟩
  obtain ⟨F, t, k, w⟩ := q
  unfold partM at w
  rw [if_pos h] at w
  exact w H ⟨k, Fr.refl⟩
theorem O_some {i : Ex} (h : isNon i = false) (ha : PE X a (tE X.K EC W m)) : PO X (some a) (tOi X.K EC W (partM i m)) := by
  refine ⟨fun pins s σ H Q I q => (po_some (pe_frz ha)).run pins s σ H Q I ?_⟩
  obtain ⟨F, t, k, w⟩ := q
  unfold partM at w
  rw [if_neg (by rw [h]; decide)] at w
  refine ⟨F, t, k, w.bind.mono fun d s1 hd v H1 ad => ?_⟩
  cases d with
  | int i =>
    have hd : ∀ H', AftB X.K F t σ H s1 H' → Q (some i) H' := hd
    cases ad.rp
    exact ⟨i, rfl, hd _ ⟨ad.ok, ad.fr⟩⟩
  | _ => exact hd.elim
theorem E_sl {oa : M Op} {lo hi : Option Expr} {l h : M (Option Int)} {p2 : Pos} (ha : PE X a (tO X.K EC W oa)) (h1 : PO X lo (tOi X.K EC W l)) (h2 : PO X hi (tOi X.K EC W h)) :
    PE X (.Subscript a (.Slice lo hi none p2) pos) (tE X.K EC W (oa.bind fun x => l.bind fun l => h.bind fun h => (resO x).bind fun d => lift (slD d l h))) :=
  peW (pe_slice sl_ok ha h1 h2) fun σ H Q ⟨F, s, k, w⟩ => ⟨F, s, k, w.bind.mono fun x s1 hx v H1 ax => by
    obtain ⟨k1, f1⟩ := ax.ok k
    refine ⟨F, s1, k1, ((hx.on f1).bind).mono fun l s2 hl H2 al => ?_⟩
    refine ⟨F, s2, al.ok, ((hl.on al.fr).bind).mono fun u s3 hu H3 au => ?_⟩
    have f3 := al.fr.trans au.fr
    obtain ⟨d, e1, hu⟩ := (hu.on au.fr).res
    obtain ⟨r, e3, hu⟩ := hu.lift
    refine ⟨Nn F s3 σ, d, r, fun _ => au.ok.nn, (ax.use au.ok f3 e1).2, e3, give_of au.ok (fun v' H' z => hu v' H' (z.back (f1.trans f3))) ?_⟩
    rintro rfl
    revert e3
    unfold slD
    split <;> exact fun z => nomatch z⟩

/-! ### lists of expressions -/
theorem A_nil : PA X [] (tDs X.K EC W (M.pure [])) := paW pa_nil fun σ H Q ⟨F, s, k, w⟩ => w [] H ⟨k, Fr.refl, .nil⟩
theorem A_cons {ms : M (List D)} (h : PE X e (tE X.K EC W m)) (hs : PA X es (tDs X.K EC W ms)) (n : noStar e = true) : PA X (e :: es) (tDs X.K EC W ((frz m).bind fun d => ms.bind fun ds => M.pure (d :: ds))) :=
  paW (pa_cons (pe_frz h) hs (star_cons n _)) fun σ H Q ⟨F, s, k, w⟩ => ⟨F, s, k, w.bind.mono fun d s1 hd v H1 ad =>
    ⟨F, s1, ad.ok, ((hd.on ad.fr).bind).mono fun ds s2 hds vs H2 ads => hds _ _ ⟨ads.ok, ad.fr.trans ads.fr, .cons (Rp.mono ads.fr.le _ _ ad.rp) ads.rp⟩⟩⟩
theorem E_tup {k1 : Nat} {ms : M (List D)} (h : PA X es (tDs X.K EC W ms)) : PE X (.Tuple es k1 pos) (tE X.K EC W (ms.bind fun ds => if ds.length ≤ sizeLine then M.pure (.sh (.tuple ds)) else bad)) :=
  peW (pe_tup h) fun σ H Q ⟨F, s, k, w⟩ => ⟨F, s, k, w.bind.mono fun ds s1 hd vs H1 ad => by
    by_cases c : ds.length ≤ sizeLine
    · rw [if_pos c] at hd
      refine ⟨by rw [ad.rp.length]; exact c, fun p hp => hd _ _ ⟨ad.ok.new hp, ad.fr.trans (ad.ok.frNew hp), Dm.tup (fun _ => ad.ok.nn) hp ad.rp⟩⟩
    · rw [if_neg c] at hd
      exact hd.elim⟩
theorem AftW.new {s s1 : S} {σ : L2.St} {H H1 : Hp} {F : NS} {ds : List D} {vs : List V} {p : Addr} (k : StOk X.K F s1 σ H1) (f : Fr F (Nn F s σ) H (Nn F s1 σ) H1) (hp : H1 p = none) (r : RpA X.K (Hid (Nn F s1 σ) H1) vs ds) :
    AftW X.K F s σ H (.lst ds) s1 p (upd H1 p (.lst vs)) := by
  obtain ⟨k1, f1⟩ := k.newOw (o := .lst vs) .lst hp
  refine ⟨k1, f.trans f1, fun z => k.free hp (.inl z), ?_⟩
  rw [nn_ad]
  exact Dm.lst (fun _ => k.nn) hp r
theorem E_lst {ms : M (List D)} (h : PA X es (tDs X.K EC W ms)) : PE X (.List es pos) (tE X.K EC W (ms.bind fun ds => if ds.length ≤ sizeLine then M.pure (.ow (.lst ds)) else bad)) :=
  peW (pe_lst h) fun σ H Q ⟨F, s, k, w⟩ => ⟨F, s, k, w.bind.mono fun ds s1 hd vs H1 ad => by
    by_cases c : ds.length ≤ sizeLine
    · rw [if_pos c] at hd
      exact ⟨by rw [ad.rp.length]; exact c, fun p hp => hd _ _ ⟨p, rfl, AftW.new ad.ok ad.fr hp ad.rp⟩⟩
    · rw [if_neg c] at hd
      exact hd.elim⟩
/-- operands -/
inductive OpA (K : PySem.W.Frag) (F : NS) (s : S) (σ : L2.St) (H : Hp) : List V → List Op → Prop
  | nil : OpA K F s σ H [] []
  | dd {v : V} {vs : List V} {d : D} {as : List Op} : Rp K (Hid (Nn F s σ) H) v d → OpA K F s σ H vs as → OpA K F s σ H (v :: vs) (.d d :: as)
  | vv {v : V} {vs : List V} {i : Nat} {as : List Op} : σ[i]? = some (some v) → OpA K F s σ H vs as → OpA K F s σ H (v :: vs) (.v i :: as)
structure AftOs (K : PySem.W.Frag) (F : NS) (s : S) (σ : L2.St) (H : Hp) (xs : List Op) (s' : S) (vs : List V) (H' : Hp) : Prop where
  ok : StOk K F s' σ H'
  fr : Fr F (Nn F s σ) H (Nn F s' σ) H'
  rp : OpA K F s' σ H' vs xs
def tOs (K : PySem.W.Frag) (EC : Nat → Addr) (W : WX) (m : M (List Op)) : TA := fun σ H Q => ∃ F s, StOk K F s σ H ∧ Wp K EC W F s σ H (m s) fun r s' => ∀ v H', AftOs K F s σ H r s' v H' → Q v H'
theorem O_nil : PA X [] (tOs X.K EC W (M.pure [])) := paW pa_nil fun σ H Q ⟨F, s, k, w⟩ => w [] H ⟨k, Fr.refl, .nil⟩
theorem O_cons {oa : M Op} {ms : M (List Op)} (h : PE X e (tO X.K EC W oa)) (hs : PA X es (tOs X.K EC W ms)) (n : noStar e = true) : PA X (e :: es) (tOs X.K EC W (oa.bind fun d => ms.bind fun ds => M.pure (d :: ds))) :=
  paW (pa_cons h hs (star_cons n _)) fun σ H Q ⟨F, s, k, w⟩ => ⟨F, s, k, w.bind.mono fun d s1 hd v H1 ad => by
    obtain ⟨k1, f1⟩ := ad.ok k
    refine ⟨F, s1, k1, ((hd.on f1).bind).mono fun ds s2 hds vs H2 ads => hds _ _ ⟨ads.ok, f1.trans ads.fr, ?_⟩⟩
    cases d with
    | d d => exact .dd (Rp.mono ads.fr.le _ _ (AftD.rp ad)) ads.rp
    | v i => exact .vv ad.2.2.1 ads.rp⟩
theorem useV {K : PySem.W.Frag} {F : NS} {s s' : S} {σ : L2.St} {H : Hp} {i : Nat} {v : V} {d : D} (k : StOk K F s σ H) (hv : σ[i]? = some (some v)) (e : resV i s = .ok d s') : s' = s ∧ Rd_ K (Nn F s σ) H v d := by
  unfold resV at e
  split at e
  · rename_i o' q
    cases e
    obtain ⟨p, e1, z⟩ := k.ow i o' q
    rw [hv] at e1
    cases e1
    exact ⟨rfl, z.rd⟩
  · rename_i d' q
    cases e
    obtain ⟨v', e1, z⟩ := k.sh i d q
    rw [hv] at e1
    cases e1
    exact ⟨rfl, z.rd⟩
  · cases e
theorem resV_no {i : Nat} {s s' : S} {e : Er} : resV i s ≠ .err e s' := by
  unfold resV
  split <;> exact fun z => nomatch z
/-- all operands are read -/
theorem OpA.read {K : PySem.W.Frag} {F : NS} {s : S} {σ : L2.St} {H : Hp} (k : StOk K F s σ H) : ∀ {vs : List V} {xs : List Op}, OpA K F s σ H vs xs → resOs xs s = .bad ∨ ∃ ds, resOs xs s = .ok ds s ∧ RdA K (Nn F s σ) H vs ds
  | _, _, .nil => .inr ⟨[], rfl, .nil⟩
  | _, _, @OpA.dd _ _ _ _ _ v vs d as r t => by
    have e : resOs (.d d :: as) s = (resOs as s).bind fun ds s' => R.ok (d :: ds) s' := rfl
    rcases OpA.read k t with q | ⟨ds, q, z⟩
    · exact .inl (by rw [e, q] <;> rfl)
    · exact .inr ⟨d :: ds, by rw [e, q] <;> rfl, .cons r.rd z⟩
  | _, _, @OpA.vv _ _ _ _ _ v vs i as hv t => by
    have e : resOs (.v i :: as) s = (resV i s).bind fun d s1 => (resOs as s1).bind fun ds s' => R.ok (d :: ds) s' := rfl
    cases z : resV i s with
    | bad => exact .inl (by rw [e, z] <;> rfl)
    | err u s' => exact absurd z resV_no
    | ok d s' =>
      obtain ⟨rfl, rd⟩ := useV k hv z
      rcases OpA.read k t with q | ⟨ds, q, y⟩
      · refine .inl ?_
        rw [e, z]
        show (resOs as s').bind _ = _
        rw [q] <;> rfl
      · refine .inr ⟨d :: ds, ?_, .cons rd y⟩
        rw [e, z]
        show (resOs as s').bind _ = _
        rw [q] <;> rfl
theorem OpA.use {K : PySem.W.Frag} {F : NS} {s : S} {σ : L2.St} {H : Hp} {vs : List V} {xs : List Op} {β : Type} {f : List D → M β} {EC : Nat → Addr} {W : WX} {Φ : β → S → Prop} (k : StOk K F s σ H) (o : OpA K F s σ H vs xs)
    (w : Wp K EC W F s σ H (((resOs xs).bind f) s) Φ) : ∃ ds, RdA K (Nn F s σ) H vs ds ∧ Wp K EC W F s σ H (f ds s) Φ := by
  have e : ((resOs xs).bind f) s = (resOs xs s).bind f := rfl
  rw [e] at w
  rcases o.read k with q | ⟨ds, q, z⟩
  · rw [q] at w
    exact w.elim
  · rw [q] at w
    exact ⟨ds, z, w⟩

/-! ### built-in functions -/
theorem bf_un {b : Bf} {ds : List D} : bfD b ds ≠ some .un := by
  unfold bfD
  split <;> first
    | (intro z; cases z; done)
    | (intro z
       split at z <;> cases z
       done)
    | (intro z
       obtain ⟨k, _, e⟩ := Option.map_eq_some_iff.mp z
       cases e
       done)
    | (intro z
       obtain ⟨m, _, e⟩ := Option.bind_eq_some_iff.mp z
       obtain ⟨k, _, e⟩ := Option.map_eq_some_iff.mp e
       cases e
       done)
    | (intro z
       obtain ⟨m, _, e⟩ := Option.bind_eq_some_iff.mp z
       split at e <;> cases e)
theorem bf_use {b : Bf} {ms : M (List Op)} {σ : L2.St} {H : Hp} {Q : VK} (w : tE X.K EC W (ms.bind fun xs => (resOs xs).bind fun ds => lift (bfD b ds)) σ H Q) : tCB (rBf X.K b) (tOs X.K EC W ms) σ H Q := by
  obtain ⟨F, s, k, w⟩ := w
  refine ⟨F, s, k, w.bind.mono fun xs s1 hx vs H1 ax => ?_⟩
  obtain ⟨ds, rd, hx⟩ := ax.rp.use ax.ok (hx.on ax.fr)
  obtain ⟨r, e, hx⟩ := hx.lift
  refine ⟨Nn F s1 σ, ds, r, fun _ => ax.ok.nn, rd, e, give_of ax.ok (fun v' H' z => hx v' H' (z.back ax.fr)) ?_⟩
  rintro rfl
  exact bf_un e
def Bf.isTy : Bf → Bool
  | .int => true
  | .str => true
  | .tuple => true
  | .list => true
  | .dict => true
  | _ => false
theorem E_bf {b : Bf} {ms : M (List Op)} {n : Str} {p : Pos} (hc : X.calm = true) (hu : X.A.units + 65 < cLine) (hn : b.name = n) (hg : Gl X n) (hm : X.mg n = none) (hs : PA X (e :: es) (tOs X.K EC W ms)) (hst : noStar e = true) (hall : es.all noStar = true) :
    PE X (.Call (.Name n p) (e :: es) [] pos) (tE X.K EC W (ms.bind fun xs => (resOs xs).bind fun ds => lift (bfD b ds))) := by
  subst hn
  have call := bf_ok (X := X) hc hu b
  have st := star_cons (es := es) hst X.env
  have sa := star_all es pos X.env hall
  cases b with
  | len => exact peW (pe_callB (r := rBf X.K .len) call hg hm (by decide +kernel) hs (by decide) (by decide) st sa) fun σ H Q w => bf_use w
  | abs => exact peW (pe_callB (r := rBf X.K .abs) call hg hm (by decide +kernel) hs (by decide) (by decide) st sa) fun σ H Q w => bf_use w
  | max => exact peW (pe_callB (r := rBf X.K .max) call hg hm (by decide +kernel) hs (by decide) (by decide) st sa) fun σ H Q w => bf_use w
  | min => exact peW (pe_callB (r := rBf X.K .min) call hg hm (by decide +kernel) hs (by decide) (by decide) st sa) fun σ H Q w => bf_use w
  | all => exact peW (pe_callB (r := rBf X.K .all) call hg hm (by decide +kernel) hs (by decide) (by decide) st sa) fun σ H Q w => bf_use w
  | int => exact peW (pe_callTy (r := rBf X.K .int) call hg hm (by decide +kernel) hs (by decide) (by decide) st sa) fun σ H Q w => bf_use w
  | tuple => exact peW (pe_callTy (r := rBf X.K .tuple) call hg hm (by decide +kernel) hs (by decide) (by decide) st sa) fun σ H Q w => bf_use w
  | list => exact peW (pe_callTy (r := rBf X.K .list) call hg hm (by decide +kernel) hs (by decide) (by decide) st sa) fun σ H Q w => bf_use w
  | str => exact peW (pe_callTy (r := rBf X.K .str) call hg hm (by decide +kernel) hs (by decide) (by decide) st sa) fun σ H Q w => bf_use w
  | sum => exact peW (pe_callB (r := rBf X.K .sum) call hg hm (by decide +kernel) hs (by decide) (by decide) st sa) fun σ H Q w => bf_use w
  | dict => exact peW (pe_callTy (r := rBf X.K .dict) call hg hm (by decide +kernel) hs (by decide) (by decide) st sa) fun σ H Q w => bf_use w
end
end Hg
set_option Elab.async false
set_option linter.all false
set_option maxRecDepth 100000
set_option maxHeartbeats 400000
/-! Calls, comprehensions, what is walked. -/
namespace Hg
open PySem PySem.Spec PyProof.Rows L2 RZ RT
section
variable {X : Cx} {EC : Nat → Addr} {W : WX} {C : Cal} {e a b c : Expr} {es : List Expr} {m ma mb mc : M Sl} {pos : Pos} {ia ib : Ex}
/-! ### arguments -/
def tAg (K : PySem.W.Frag) (EC : Nat → Addr) (W : WX) (m : M Ag) : TE := fun σ H Q => ∃ F s, StOk K F s σ H ∧ Wp K EC W F s σ H (m s) fun x s' => ∀ v H', AftA K F s σ H [x] s' [v] H' → Q v H'
def tAs (K : PySem.W.Frag) (EC : Nat → Addr) (W : WX) (m : M (List Ag)) : TA := fun σ H Q => ∃ F s, StOk K F s σ H ∧ Wp K EC W F s σ H (m s) fun xs s' => ∀ vs H', AftA K F s σ H xs s' vs H' → Q vs H'
theorem G_d (h : PE X e (tE X.K EC W m)) : PE X e (tAg X.K EC W (argM false ia m)) := peW (pe_frz h) fun σ H Q ⟨F, s, k, w⟩ => by
  have w : Wp X.K EC W F s σ H (((frz m).bind fun d => M.pure (Ag.d d)) s) _ := w
  exact ⟨F, s, k, w.bind.mono fun d s1 hd v H1 ad => hd v H1 ⟨ad.ok, ad.fr, .d ad.rp .nil⟩⟩
theorem G_io {i : Nat} {x : Str} (h : PE X (.Name x pos) (tVar i)) : PE X (.Name x pos) (tAg X.K EC W (argM true (.var i) m)) := peW h fun σ H Q ⟨F, s, k, w⟩ => by
  have w : Wp X.K EC W F s σ H (match s[i]? with
    | some (.ow _) => R.ok (Ag.io i) s
    | _ => R.bad) _ := w
  cases q : s[i]? with
  | none => rw [q] at w; exact w.elim
  | some z =>
    rw [q] at w
    cases z with
    | un => exact w.elim
    | sh d => exact w.elim
    | ow o =>
      obtain ⟨p, e1, _⟩ := k.ow i o q
      exact ⟨_, e1, w _ H ⟨k, Fr.refl, .io e1 .nil⟩⟩
theorem S_nil : PA X [] (tAs X.K EC W (M.pure [])) := paW pa_nil fun σ H Q ⟨F, s, k, w⟩ => w [] H ⟨k, Fr.refl, .nil⟩
theorem S_cons {x : M Ag} {ms : M (List Ag)} (h : PE X e (tAg X.K EC W x)) (hs : PA X es (tAs X.K EC W ms)) (n : noStar e = true) : PA X (e :: es) (tAs X.K EC W (x.bind fun d => ms.bind fun ds => M.pure (d :: ds))) :=
  paW (pa_cons h hs (star_cons n _)) fun σ H Q ⟨F, s, k, w⟩ => ⟨F, s, k, w.bind.mono fun d s1 hd v H1 ad =>
    ⟨F, s1, ad.ok, ((hd.on ad.fr).bind).mono fun ds s2 hds vs H2 ads => hds _ _ ⟨ads.ok, ad.fr.trans ads.fr, by
      have z := AgA.mono ads.fr.le ad.rp
      cases z with
      | d r _ => exact .d r ads.rp
      | io r _ => exact .io r ads.rp⟩⟩⟩
/-- a def as it is called -/
def FnAt (X : Cx) (EC : Nat → Addr) (C : Cal) (k : Nat) (f : Nat) (n : Str) : Prop := ∃ (a : Addr) (fd : FuncData) (ps : List Str), X.mg n = some (.ref a) ∧ PySem.W.keepIn X.K (.ref a) = true ∧ Binds X.K fd ps [] ∧ ps.length = (C.io f).length ∧
  FnOk X.prog X.w X.K X.mg X.base (L2.CX X.prog X.w) k a fd ps (spF X.K EC (C.io f).length (C.run f))
theorem evAs_len {C : Cal} : ∀ {bs : List Bool} {es : Exs} {s s' : S} {as : List Ag}, evAs C bs es s = .ok as s' → as.length = bs.length
  | [], .nil, s, s', as, h => by
    rw [evAs] at h
    cases h
    rfl
  | [], .cons _ _, s, s', as, h => by
    have h : (R.bad : R (List Ag)) = .ok as s' := h
    cases h
  | _ :: _, .nil, s, s', as, h => by
    have h : (R.bad : R (List Ag)) = .ok as s' := h
    cases h
  | b :: bs, .cons e es, s, s', as, h => by
    rw [evAs] at h
    have h : ((argM b e (evE C e)) s).bind (fun d s1 => ((evAs C bs es) s1).bind fun ds s2 => R.ok (d :: ds) s2) = .ok as s' := h
    cases q : argM b e (evE C e) s with
    | bad => rw [q] at h; cases h
    | err u t => rw [q] at h; cases h
    | ok d s1 =>
      rw [q] at h
      have h : ((evAs C bs es) s1).bind (fun ds s2 => R.ok (d :: ds) s2) = .ok as s' := h
      cases z : evAs C bs es s1 with
      | bad => rw [z] at h; cases h
      | err u t => rw [z] at h; cases h
      | ok ds s2 =>
        rw [z] at h
        cases h
        rw [List.length_cons, List.length_cons, evAs_len z]
theorem AgA.len {K : PySem.W.Frag} {N : NS} {H : Hp} {σ : L2.St} : ∀ {vs : List V} {as : List Ag}, AgA K N H σ vs as → vs.length = as.length
  | _, _, .nil => rfl
  | _, _, .d _ b => congrArg Nat.succ (AgA.len b)
  | _, _, .io _ b => congrArg Nat.succ (AgA.len b)
/-- from the arguments to the promise -/
theorem call_use {f : Nat} {as : List Ag} {F : NS} {s s1 : S} {σ : L2.St} {H H1 : Hp} {vs : List V} {Q : VK} (hl : as.length = (C.io f).length) (a : AftA X.K F s σ H as s1 vs H1)
    (w : Wp X.K EC W F s σ H (callM C f as s1) fun r s' => ∀ v H', AftS X.K F s σ H r s' v H' → Q v H') : spF X.K EC (C.io f).length (C.run f) vs H1 Q (WE W σ) := by
  unfold callM callR at w
  by_cases nd : (ioIx as).Nodup
  · rw [if_pos nd] at w
    cases q : argSls s1 as with
    | none => rw [q] at w; exact w.elim
    | some l =>
      rw [q] at w
      refine ⟨Fc F s1 σ (ioIx as), l, a.rp.len.trans hl, call_in a.ok a.rp q nd, ?_⟩
      unfold runR
      have w : Wp X.K EC W F s σ H (callE (C.run f l) (ioIx as) s1) fun r s' => ∀ v H', AftS X.K F s σ H r s' v H' → Q v H' := w
      cases z : C.run f l with
      | bad => rw [z] at w; exact w.elim
      | ok r outs =>
        rw [z] at w
        dsimp only [callE] at w
        by_cases ho : outs.length = (ioIx as).length
        · rw [if_pos ho] at w
          exact fun v H' aft => w v H' ((call_out a.ok a.rp q nd ho aft).back a.fr)
        · rw [if_neg ho] at w
          exact w.elim
      | err u outs =>
        rw [z] at w
        dsimp only [callE] at w
        by_cases ho : outs.length = (ioIx as).length
        · rw [if_pos ho] at w
          intro H' cls d k' f' er
          rw [nn_call a.rp q] at f'
          obtain ⟨k2, enn⟩ := call_ok (G := F) (Gc := Fc F s1 σ (ioIx as)) a.ok a.rp q nd ho (fun _ z => z) (fun b => Iff.rfl) a.ok.ap k' f'
          exact w H' cls d k2 (a.fr.trans (fr_call f' enn)) er
        · rw [if_neg ho] at w
          exact w.elim
  · rw [if_neg nd] at w
    exact w.elim
/-! ### lent operands -/
theorem R.bind_okA {α β : Type} {r : R α} {f : α → S → R β} {b : β} {s' : S} (h : r.bind f = .ok b s') : ∃ a s1, r = .ok a s1 ∧ f a s1 = .ok b s' := by
  cases r with
  | bad => cases h
  | err e s => cases h
  | ok a s1 => exact ⟨a, s1, rfl, h⟩
theorem letG_res {s : S} {i j : Nat} {d : D} (h : resV j s = .ok d s) : resV j (letG s i) = .ok d (letG s i) := by
  unfold letG
  split
  · rename_i o q
    have hi := get_lt q
    unfold resV at h ⊢
    by_cases hj : j = i
    · subst hj
      rw [q] at h
      cases h
      rw [List.getElem?_set_self hi]
    · rw [List.getElem?_set_ne (Ne.symm hj)]
      cases e : s[j]? with
      | none => rw [e] at h; cases h
      | some x =>
        rw [e] at h
        cases x with
        | un => cases h
        | sh d' => cases h; rfl
        | ow o' => cases h; rfl
  · exact h
theorem resOs_cons {x : Op} {xs : List Op} {s : S} {ds : List D} (h : resOs (x :: xs) s = .ok ds s) : ∃ d r, ds = d :: r ∧ resO x s = .ok d s ∧ resOs xs s = .ok r s := by
  have e : resOs (x :: xs) s = (resO x s).bind fun d s1 => (resOs xs s1).bind fun ds s' => R.ok (d :: ds) s' := rfl
  rw [e] at h
  obtain ⟨d, s1, h1, h2⟩ := R.bind_okA h
  obtain ⟨r, s2, h3, h4⟩ := R.bind_okA h2
  cases h4
  have e1 : s1 = s := by
    cases x with
    | d d' => cases h1; rfl
    | v i =>
      have h1 : resV i s = .ok d s1 := h1
      unfold resV at h1
      split at h1 <;> first | (cases h1; rfl) | (cases h1)
  subst e1
  exact ⟨d, r, rfl, h1, h3⟩
theorem letG_resOs {s : S} {i : Nat} : ∀ {xs : List Op} {ds : List D}, resOs xs s = .ok ds s → resOs xs (letG s i) = .ok ds (letG s i)
  | [], ds, h => by
    have h : (R.ok [] s : R (List D)) = .ok ds s := h
    cases h
    rfl
  | x :: xs, ds, h => by
    obtain ⟨d, r, rfl, h1, h2⟩ := resOs_cons h
    have h3 := letG_resOs (i := i) h2
    have h4 : resO x (letG s i) = .ok d (letG s i) := by
      cases x with
      | d d' => cases h1; rfl
      | v j => exact letG_res h1
    show (resO x (letG s i)).bind _ = _
    rw [h4]
    show (resOs xs (letG s i)).bind _ = _
    rw [h3]
    rfl
section
variable {K : PySem.W.Frag} {F : NS} {s : S} {σ : L2.St} {H : Hp}
theorem OpA.to {s2 : S} (l : Le (Hid (Nn F s σ) H) (Hid (Nn F s2 σ) H)) : ∀ {vs : List V} {xs : List Op}, OpA K F s σ H vs xs → OpA K F s2 σ H vs xs
  | _, _, .nil => .nil
  | _, _, .dd r t => .dd (Rp.mono l _ _ r) (OpA.to l t)
  | _, _, .vv e t => .vv e (OpA.to l t)
theorem letG_ok (k : StOk K F s σ H) (i : Nat) : StOk K F (letG s i) σ H ∧ Fr F (Nn F s σ) H (Nn F (letG s i) σ) H := by
  unfold letG
  split
  · rename_i o q
    obtain ⟨p, e, _⟩ := k.ow i o q
    have z := k.share q e
    exact ⟨z.ok, z.fr⟩
  · exact ⟨k, Fr.refl⟩
theorem letG_rp (k : StOk K F s σ H) {i : Nat} {v : V} {d : D} (hv : σ[i]? = some (some v)) (h : resV i s = .ok d s) : Rp K (Hid (Nn F (letG s i) σ) H) v d := by
  unfold letG
  unfold resV at h
  split
  · rename_i o q
    rw [q] at h
    cases h
    obtain ⟨p, e, _⟩ := k.ow i o q
    rw [hv] at e
    cases e
    exact (k.share q hv).rp
  · rename_i hn
    cases e : s[i]? with
    | none => rw [e] at h; cases h
    | some x =>
      rw [e] at h
      cases x with
      | un => cases h
      | ow o => exact absurd e (hn o)
      | sh d' =>
        cases h
        obtain ⟨v', e1, r⟩ := k.sh i d e
        rw [hv] at e1
        cases e1
        exact r
theorem letGo_ok : ∀ {xs : List Op} {vs : List V} {s : S} {ds : List D}, StOk K F s σ H → OpA K F s σ H vs xs → resOs xs s = .ok ds s →
    StOk K F (letGo s xs) σ H ∧ Fr F (Nn F s σ) H (Nn F (letGo s xs) σ) H ∧ AgA K (Nn F (letGo s xs) σ) H σ vs (ds.map Ag.d)
  | [], _, s, ds, k, .nil, h => by
    have h : (R.ok [] s : R (List D)) = .ok ds s := h
    cases h
    exact ⟨k, Fr.refl, .nil⟩
  | .d d' :: xs, _, s, ds, k, .dd r t, h => by
    obtain ⟨d, ds', rfl, h1, h2⟩ := resOs_cons h
    cases h1
    obtain ⟨k2, f2, g2⟩ := letGo_ok k t h2
    exact ⟨k2, f2, .d (Rp.mono f2.le _ _ r) g2⟩
  | .v i :: xs, _, s, ds, k, .vv e t, h => by
    obtain ⟨d, ds', rfl, h1, h2⟩ := resOs_cons h
    obtain ⟨k1, f1⟩ := letG_ok k i
    obtain ⟨k2, f2, g2⟩ := letGo_ok k1 (t.to f1.le) (letG_resOs (i := i) h2)
    exact ⟨k2, f1.trans f2, .d (Rp.mono f2.le _ _ (letG_rp k e h1)) g2⟩
theorem letGo_no : ∀ {xs : List Op} {s : S}, anyV xs = false → letGo s xs = s
  | [], _, _ => rfl
  | .d _ :: xs, s, h => letGo_no (xs := xs) h
  | .v _ :: xs, s, h => nomatch (show true = false from h)
/-- what a lent call's callee hides -/
def Ln (F : NS) (s : S) (σ : L2.St) (xs : List Op) : NS := Nn F (letGo s xs) σ
/-- the slots behind a call whose answer bears nothing -/
theorem lend_back {H' : Hp} (k : StOk K F s σ H) {N : NS} (sub : ∀ b, N b → Nn F s σ b) (fN : ∀ b, F b → N b) (t : Tb K H') (f : Fr N N H N H') : StOk K F s σ H' ∧ Fr F (Nn F s σ) H (Nn F s σ) H' := by
  have ff : Fr F (Nn F s σ) H (Nn F s σ) H' := ⟨fun b hb => f.keep b (fN b hb), fun b o n t e => ⟨(f.imm b o (fun z => n (sub b z)) t e).1, n⟩⟩
  refine ⟨k.keep ff (fun b hb => ?_) t, ff⟩
  by_cases z : N b
  · exact f.keep b z
  · obtain ⟨u, e, n⟩ := k.own' hb
    rw [e]
    exact (f.imm b u z n.1 e).1
end
theorem scal_rp {K : PySem.W.Frag} {H H' : Hp} {r : Sl} {v : V} (h : scal r = true) : ∃ d, r = .sh d ∧ (Rp K H v d → Rp K H' v d) := by
  unfold scal at h
  split at h
  · exact ⟨_, rfl, fun z => by cases z; exact .non⟩
  · exact ⟨_, rfl, fun z => by cases z; exact .bl _⟩
  · exact ⟨_, rfl, fun z => by cases z; exact .int _⟩
  · exact ⟨_, rfl, fun z => by cases z; exact .str _⟩
  · cases h
theorem ioIx_d : ∀ ds : List D, ioIx (ds.map Ag.d) = []
  | [] => rfl
  | _ :: ds => ioIx_d ds
theorem argSls_d {s : S} : ∀ ds : List D, argSls s (ds.map Ag.d) = some (ds.map Sl.sh)
  | [] => rfl
  | d :: ds => by
    show (match argSl s (.d d), argSls s (ds.map Ag.d) with
      | some x, some xs => some (x :: xs)
      | _, _ => none) = _
    rw [argSls_d ds]
    rfl
theorem outS_d : ∀ ds : List D, outS (ds.map Sl.sh) [] = ds.map Sl.sh
  | [] => rfl
  | d :: ds => by
    show Sl.sh d :: outS (ds.map Sl.sh) [] = _
    rw [outS_d ds]
    rfl
theorem OpA.len {K : PySem.W.Frag} {F : NS} {s : S} {σ : L2.St} {H : Hp} : ∀ {vs : List V} {xs : List Op}, OpA K F s σ H vs xs → vs.length = xs.length
  | _, _, .nil => rfl
  | _, _, .dd _ t => congrArg Nat.succ (OpA.len t)
  | _, _, .vv _ t => congrArg Nat.succ (OpA.len t)
theorem resOs_len {s s' : S} : ∀ {xs : List Op} {ds : List D}, resOs xs s = .ok ds s → ds.length = xs.length
  | [], ds, h => by
    have h : (R.ok [] s : R (List D)) = .ok ds s := h
    cases h
    rfl
  | x :: xs, ds, h => by
    obtain ⟨d, r, rfl, _, h2⟩ := resOs_cons h
    exact congrArg Nat.succ (resOs_len (s' := s') h2)
theorem callN_use {f : Nat} {xs : List Op} {F : NS} {s s1 : S} {σ : L2.St} {H H1 : Hp} {vs : List V} {Q : VK} (a : AftOs X.K F s σ H xs s1 vs H1)
    (w : Wp X.K EC W F s σ H (callN C f xs s1) fun r s' => ∀ v H', AftS X.K F s σ H r s' v H' → Q v H') : spF X.K EC (C.io f).length (C.run f) vs H1 Q (WE W σ) := by
  unfold callN at w
  by_cases hl : xs.length = (C.io f).length
  case neg => rw [if_neg hl] at w; exact w.elim
  rw [if_pos hl] at w
  rcases a.rp.read a.ok with q | ⟨ds, q, _⟩
  · rw [q] at w; exact w.elim
  rw [q] at w
  have ld := resOs_len (s' := s1) q
  obtain ⟨k2, f2, g2⟩ := letGo_ok a.ok a.rp q
  have old : Wp X.K EC W F s σ H (callM C f (ds.map Ag.d) (letGo s1 xs)) (fun r s' => ∀ v H', AftS X.K F s σ H r s' v H' → Q v H') → spF X.K EC (C.io f).length (C.run f) vs H1 Q (WE W σ) := fun w =>
    call_use (by rw [List.length_map, ld, hl]) ⟨k2, a.fr.trans f2, g2⟩ w
  dsimp only at w
  by_cases hv : anyV xs = true
  case neg =>
    rw [if_neg hv] at w
    rw [← letGo_no (xs := xs) (s := s1) (by simpa using hv)] at w
    exact old w
  rw [if_pos hv] at w
  cases hr : C.run f (ds.map Sl.sh) with
  | bad => rw [hr] at w; exact old w
  | err u outs => rw [hr] at w; exact old w
  | ok r outs =>
    rw [hr] at w
    cases outs with
    | cons o os => exact old w
    | nil =>
      dsimp only at w
      by_cases hs : scal r = true
      case neg => rw [if_neg hs] at w; exact old w
      rw [if_pos hs] at w
      have w : ∀ v H', AftS X.K F s σ H r s1 v H' → Q v H' := w
      have sub : ∀ b, Nn F (letGo s1 xs) σ b → Nn F s1 σ b := fun b z => by
        by_cases c : Nn F s1 σ b
        · exact c
        · obtain ⟨u, e, n⟩ := k2.nn' z
          exact absurd z (f2.imm b u c n.1 e).2
      have no : ∀ b, ¬ Own (ds.map Sl.sh) (vs.map some) b := fun b ⟨i, o, e, _⟩ => by
        rw [List.getElem?_map] at e
        cases z : ds[i]? with
        | none => rw [z] at e; cases e
        | some d => rw [z] at e; cases e
      have nn : ∀ G : NS, Nn G (ds.map Sl.sh) (vs.map some) = G := fun G => by
        funext b
        exact propext ⟨fun z => z.elim id fun z => absurd z (no b), .inl⟩
      have at_ : ∀ (i : Nat) (d : D), ds[i]? = some d → ∃ v, vs[i]? = some v ∧ Rp X.K (Hid (Nn F (letGo s1 xs) σ) H1) v d := by
        have go : ∀ {ds : List D} {vs : List V}, AgA X.K (Nn F (letGo s1 xs) σ) H1 σ vs (ds.map Ag.d) → ∀ (i : Nat) (d : D), ds[i]? = some d → ∃ v, vs[i]? = some v ∧ Rp X.K (Hid (Nn F (letGo s1 xs) σ) H1) v d := by
          intro ds
          induction ds with
          | nil => intro vs _ i d e; simp at e
          | cons d0 ds ih =>
            intro vs g i d e
            cases g with
            | d r t =>
              cases i with
              | zero =>
                simp at e
                subst e
                exact ⟨_, rfl, r⟩
              | succ i =>
                obtain ⟨v, e1, e2⟩ := ih t i d (by simpa using e)
                exact ⟨v, by simpa using e1, e2⟩
        exact go g2
      refine ⟨Nn F (letGo s1 xs) σ, ds.map Sl.sh, a.rp.len.trans hl, ⟨by rw [List.length_map, List.length_map, ld, a.rp.len], fun i d e => ?_, fun i o e => ?_, fun i j o o' p e => ?_, fun b z => absurd z (no b), fun b z => k2.nn' z, a.ok.tb⟩, ?_⟩
      · rw [nn, List.getElem?_map]
        rw [List.getElem?_map] at e
        cases z : ds[i]? with
        | none => rw [z] at e; cases e
        | some d' =>
          rw [z] at e
          cases e
          obtain ⟨v, e1, e2⟩ := at_ i d z
          exact ⟨v, by rw [e1]; rfl, e2⟩
      · rw [List.getElem?_map] at e
        cases z : ds[i]? with
        | none => rw [z] at e; cases e
        | some d' => rw [z] at e; cases e
      · rw [List.getElem?_map] at e
        cases z : ds[i]? with
        | none => rw [z] at e; cases e
        | some d' => rw [z] at e; cases e
      · unfold runR
        rw [hr]
        dsimp only
        rw [outS_d]
        obtain ⟨d, rfl, hrp⟩ := scal_rp (K := X.K) (H := H) (H' := H) (v := .non) hs
        intro v H' aft
        have aft : AftD X.K (Nn F (letGo s1 xs) σ) (ds.map Sl.sh) (vs.map some) H1 d (ds.map Sl.sh) v H' := aft
        have fr := aft.fr
        rw [nn] at fr
        obtain ⟨kb, fb⟩ := lend_back a.ok sub (fun b z => .inl z) aft.ok.tb fr
        obtain ⟨d', e1, hrp'⟩ := scal_rp (K := X.K) (H := Hid (Nn (Nn F (letGo s1 xs) σ) (ds.map Sl.sh) (vs.map some)) H') (H' := Hid (Nn F s1 σ) H') (v := v) hs
        cases e1
        exact w v H' ⟨kb, a.fr.trans fb, hrp' aft.rp⟩
theorem Wp.len {α β : Type} {K : PySem.W.Frag} {F : NS} {s : S} {σ : L2.St} {H : Hp} {m : M α} {f : α → M β} {Φ : β → S → Prop} (w : Wp K EC W F s σ H ((m.bind f) s) Φ) : Wp K EC W F s σ H (m s) fun a s1 => m s = .ok a s1 ∧ Wp K EC W F s σ H (f a s1) Φ := by
  have w := w.bind
  cases q : m s with
  | bad => rw [q] at w; exact w
  | err e s' => rw [q] at w; exact w
  | ok a s1 => rw [q] at w; exact ⟨rfl, w⟩
theorem E_callN {k f : Nat} {n : Str} {ma : M (List Op)} {p : Pos} (tk : Takes X W) (hr : Room k X.A) (hg : Gl X n) (hd : (n == ("__debug__" : Str)) = false) (hF : FnAt X EC C k f n) (hs : PA X (e :: es) (tOs X.K EC W ma)) (hst : noStar e = true) (hall : es.all noStar = true) :
    PE X (.Call (.Name n p) (e :: es) [] pos) (tE X.K EC W (ma.bind fun xs => callN C f xs)) := by
  obtain ⟨ad, fd, ps, hm, hk, hb, _, F⟩ := hF
  exact peW (pe_callS F hr hg hm hk hb (passAt tk) hs hd (star_cons hst _) (star_all es pos X.env hall)) fun σ H Q ⟨Fs, s, k, w⟩ => ⟨Fs, s, k, w.bind.mono fun xs s1 hx vs H1 ax => callN_use ax hx⟩
theorem E_callG {k f : Nat} {n : Str} {ma : M (List Ag)} {p : Pos} (tk : Takes X W) (hr : Room k X.A) (hg : Gl X n) (hd : (n == ("__debug__" : Str)) = false) (hF : FnAt X EC C k f n) (hs : PA X (e :: es) (tAs X.K EC W ma)) (hl : ∀ s as s', ma s = .ok as s' → as.length = (C.io f).length) (hst : noStar e = true) (hall : es.all noStar = true) :
    PE X (.Call (.Name n p) (e :: es) [] pos) (tE X.K EC W (ma.bind fun as => callM C f as)) := by
  obtain ⟨ad, fd, ps, hm, hk, hb, _, F⟩ := hF
  exact peW (pe_callS F hr hg hm hk hb (passAt tk) hs hd (star_cons hst _) (star_all es pos X.env hall)) fun σ H Q ⟨Fs, s, k, w⟩ => ⟨Fs, s, k, w.len.mono fun as s1 ⟨e1, hx⟩ vs H1 ax => call_use (hl _ _ _ e1) ax hx⟩
theorem E_call {k f : Nat} {n : Str} {ixs : Exs} {p : Pos} (tk : Takes X W) (hr : Room k X.A) (hg : Gl X n) (hd : (n == ("__debug__" : Str)) = false) (hF : FnAt X EC C k f n) (hs : PA X (e :: es) (tAs X.K EC W (evAs C (C.io f) ixs))) (hst : noStar e = true) (hall : es.all noStar = true) :
    PE X (.Call (.Name n p) (e :: es) [] pos) (tE X.K EC W ((evAs C (C.io f) ixs).bind fun as => callM C f as)) := by
  obtain ⟨ad, fd, ps, hm, hk, hb, hl, F⟩ := hF
  exact peW (pe_callS F hr hg hm hk hb (passAt tk) hs hd (star_cons hst _) (star_all es pos X.env hall)) fun σ H Q ⟨Fs, s, k, w⟩ => ⟨Fs, s, k, w.len.mono fun as s1 ⟨e1, hx⟩ vs H1 ax => call_use (evAs_len e1) ax hx⟩

/-! ### isinstance -/
theorem tys_are : ∀ ts : List Ty, Paired ClsV (ts.map fun (t : Ty) => V.ty t.name) (ts.map fun (t : Ty) => Value.type t.name)
  | [] => .nil
  | _ :: ts => .cons (.ty _) (tys_are ts)
theorem E_isi {oa : M Op} {ts : List Ty} {n : Str} {p : Pos} {r : Expr} (hn : n = "isinstance") (hg : Gl X n) (hm : X.mg n = none) (ha : PE X a (tO X.K EC W oa)) (n1 : noStar a = true) (n2 : noStar r = true)
    (hl : ts.length ≤ 10) (hr : (∃ t : Ty, ts = [t] ∧ PE X r (tC (.ty t.name))) ∨ PE X r (tTup fun σ H Q => Q (ts.map fun (t : Ty) => V.ty t.name) H)) :
    PE X (.Call (.Name n p) [a, r] [] pos) (tE X.K EC W (oa.bind fun x => (resO x).bind fun d => M.pure (.sh (.bool (ts.any (isTy d)))))) := by
  subst hn
  rcases hr with ⟨t, rfl, hr⟩ | hr
  · refine peW (pe_callB call_isY hg hm (by decide +kernel) (pa_cons ha (pa_cons hr pa_nil (star_cons n2 _)) (star_cons n1 _)) (by decide) (by decide) (star_cons n1 _) (star_all [r] pos X.env (by rw [List.all_cons, n2] <;> rfl))) fun σ H Q ⟨F, s, k, w⟩ => ⟨F, s, k, w.bind.mono fun x s1 hx v H1 ax => ?_⟩
    obtain ⟨k1, f1⟩ := ax.ok k
    obtain ⟨d, e1, hx⟩ := hx.res
    have rd := (ax.use k1 Fr.refl e1).2
    have hx : ∀ v H', AftS X.K F s σ H (.sh (.bool ([t].any (isTy d)))) s1 v H' → Q v H' := hx
    refine ⟨v, _, _, _, _, rfl, .ty _, rd.ty, kit_ok _ d t, hx _ _ ⟨k1, f1, ?_⟩⟩
    rw [show [t].any (isTy d) = isTy d t by simp]
    exact .bl _
  · refine peW (pe_callB call_isYT hg hm (by decide +kernel) (pa_cons ha (pa_cons hr pa_nil (star_cons n2 _)) (star_cons n1 _)) (by decide) (by decide) (star_cons n1 _) (star_all [r] pos X.env (by rw [List.all_cons, n2] <;> rfl))) fun σ H Q ⟨F, s, k, w⟩ => ⟨F, s, k, w.bind.mono fun x s1 hx v H1 ax => ?_⟩
    obtain ⟨k1, f1⟩ := ax.ok k
    obtain ⟨d, e1, hx⟩ := hx.res
    have hx : ∀ v H', AftS X.K F s σ H (.sh (.bool (ts.any (isTy d)))) s1 v H' → Q v H' := hx
    refine ⟨by rw [List.length_map]; exact Nat.le_trans hl (by decide), fun p hp => ?_⟩
    have k2 := k1.new (o := .tup (ts.map fun (t : Ty) => V.ty t.name)) hp
    have f2 := k1.frNew (o := .tup (ts.map fun (t : Ty) => V.ty t.name)) hp
    have rd := (ax.use k2 f2 e1).2
    refine ⟨v, p, _, _, ts.map fun (t : Ty) => Value.type t.name, _, rfl, upd_same, tys_are ts, rd.ty, kitAny_ok _ d ts, hx _ _ ⟨k2, f1.trans f2, .bl _⟩⟩
/-! ### what is walked -/
/-- an iterator over the data -/
def JOk (K : PySem.W.Frag) (N : NS) (H : Hp) (ds : List D) (J : It) : Prop := ∀ (N1 : NS) (H1 : Hp), Dm N1 H1 → Le (Hid N H) (Hid N1 H1) → ∀ i : Nat,
  (∀ d, ds[i]? = some d → J.go i H1 ∧ ∀ x H2, J.yld i H1 x H2 → (H2 = H1 ∨ ∃ p o, H1 p = none ∧ H2 = upd H1 p o) ∧ Rp K (Hid N1 H2) x d) ∧ (ds[i]? = none → J.stop i H1)
def tSr (K : PySem.W.Frag) (EC : Nat → Addr) (W : WX) (m : M (List D)) : TI := fun σ H R => ∃ F s, StOk K F s σ H ∧ Wp K EC W F s σ H (m s) fun ds s' => ∀ J H', StOk K F s' σ H' → Fr F (Nn F s σ) H (Nn F s' σ) H' → JOk K (Nn F s' σ) H' ds J → R J H'
theorem piW {tg it : Expr} {t t' : TI} (h : PI X tg it t) (w : ∀ σ H R, t' σ H R → t σ H R) : PI X tg it t' := ⟨fun pins s σ H R I q => h.run pins s σ H R I (w σ H R q)⟩
theorem piOr {tg it : Expr} {t t' : TI} (h : PI X tg it t) (h' : PI X tg it t') : PI X tg it (fun σ H R => t σ H R ∨ t' σ H R) := ⟨fun pins s σ H R I q => q.elim (h.run pins s σ H R I) (h'.run pins s σ H R I)⟩
theorem RpA.none_of {K : PySem.W.Frag} {H : Hp} {vs : List V} {ds : List D} (h : RpA K H vs ds) {i : Nat} (e : ds[i]? = none) : vs.length ≤ i := by
  rw [h.length]
  exact List.getElem?_eq_none_iff.mp e
theorem J_list {K : PySem.W.Frag} {N : NS} {H : Hp} {a : Addr} {vs : List V} {ds : List D} (h : RdK K (Hid N H) a vs) (r : RpA K (Hid N H) vs ds) : JOk K N H ds (Itl K a) := fun N1 H1 hd l i => by
  have h1 : SqL K H1 a vs := (hid_le.rdK (l.rdK h)).sqL
  refine ⟨fun d e => ?_, fun e => ⟨vs, h1, r.none_of e⟩⟩
  obtain ⟨v, e1, r1⟩ := r.get e
  refine ⟨⟨vs, v, h1, e1⟩, fun x H2 y => ?_⟩
  obtain ⟨rfl, y⟩ := y
  have := (y vs h1).symm.trans e1
  cases this
  exact ⟨.inl rfl, Rp.mono l _ _ r1⟩
theorem J_tup {K : PySem.W.Frag} {N : NS} {H : Hp} {a : Addr} {vs : List V} {ds : List D} (h : SqT K (Hid N H) a vs) (r : RpA K (Hid N H) vs ds) : JOk K N H ds (Itt K a) := fun N1 H1 hd l i => by
  have h1 : SqT K H1 a vs := hid_le.sqT (l.sqT h)
  refine ⟨fun d e => ?_, fun e => ⟨vs, h1, r.none_of e⟩⟩
  obtain ⟨v, e1, r1⟩ := r.get e
  refine ⟨⟨vs, v, h1, e1⟩, fun x H2 y => ?_⟩
  obtain ⟨rfl, y⟩ := y
  have := (y vs h1).symm.trans e1
  cases this
  exact ⟨.inl rfl, Rp.mono l _ _ r1⟩
theorem J_kD {K : PySem.W.Frag} {N : NS} {H : Hp} {p : Addr} {o : Obj} {xs : Xs} {m : Tb2} (hp : Hid N H p = some (ExO p o)) (r : RpM K (Hid N H) xs m) : JOk K N H (m.map fun p => keyT p.1) (ItdK p o xs) := fun N1 H1 hd l i => by
  have hp1 : H1 p = some (ExO p o) := (hid_iff.mp (l _ _ .ext hp)).2
  refine ⟨fun d e => ?_, fun e => ⟨hp1, by rw [r.len]; simpa using List.getElem?_eq_none_iff.mp e⟩⟩
  rw [List.getElem?_map] at e
  obtain ⟨⟨k, w⟩, e1, rfl⟩ := Option.map_eq_some_iff.mp e
  obtain ⟨b, u, v, h1, h2, h3, h4⟩ := r.get e1
  refine ⟨⟨hp1, (List.getElem?_eq_some_iff.mp h1).1⟩, fun x H2 y => ?_⟩
  obtain ⟨rfl, k', b', u', y1, rfl⟩ := y
  rw [h1] at y1
  cases y1
  exact ⟨.inl rfl, Rp.keyT (l.sqT h2)⟩
theorem J_vD {K : PySem.W.Frag} {N : NS} {H : Hp} {p : Addr} {o : Obj} {xs : Xs} {m : Tb2} (hp : Hid N H p = some (ExO p o)) (r : RpM K (Hid N H) xs m) : JOk K N H (m.map (·.2)) (ItdV p o xs) := fun N1 H1 hd l i => by
  have hp1 : H1 p = some (ExO p o) := (hid_iff.mp (l _ _ .ext hp)).2
  refine ⟨fun d e => ?_, fun e => ⟨hp1, by rw [r.len]; simpa using List.getElem?_eq_none_iff.mp e⟩⟩
  rw [List.getElem?_map] at e
  obtain ⟨⟨k, w⟩, e1, rfl⟩ := Option.map_eq_some_iff.mp e
  obtain ⟨b, u, v, h1, h2, h3, h4⟩ := r.get e1
  refine ⟨⟨hp1, (List.getElem?_eq_some_iff.mp h1).1⟩, fun x H2 y => ?_⟩
  obtain ⟨rfl, k', b', u', y1, y2⟩ := y
  rw [h1] at y1
  cases y1
  cases Option.some.inj (y2.abs.symm.trans h3.abs)
  exact ⟨.inl rfl, Rp.mono l _ _ h4⟩
theorem RpM.rel {K : PySem.W.Frag} {H : Hp} : ∀ {xs : Xs} {m : Tb2}, RpM K H xs m → ∀ (i : Nat) (x : List Int × Addr × Value), xs[i]? = some x → ∃ v, RelV v x.2.2
  | _, _, .nil, i, x, e => by simp at e
  | _, _, .cons a b c t, 0, x, e => by cases (show some _ = some x from e); exact ⟨_, b⟩
  | _, _, .cons a b c t, i + 1, x, e => t.rel i x (by simpa using e)
theorem Rp.dct {K : PySem.W.Frag} {H : Hp} {v : V} {kvs : List (D × D)} {m : Tb2} (h : Rp K H v (.dict kvs)) (e : ktD kvs = some m) : ∃ p o xs, v = .ref p ∧ H p = some (ExO p o) ∧ DOb p o xs ∧ RpM K H xs m := by
  cases h with
  | dE a c r => exact ⟨_, _, _, rfl, a, c, r.toM e⟩
  | dK a n r =>
    cases r with
    | nil => exact (n rfl).elim
    | @cons k _ _ _ ds _ _ =>
      have e : (match tkD (keyD k), ktD ds with
        | some ns, some q => some ((ns, _) :: q)
        | _, _ => none) = some m := e
      cases k <;> cases e
theorem W_seq {tg : Expr} (h : PE X e (tE X.K EC W m)) : PI X tg e (tSr X.K EC W ((frz m).bind fun d => lift (seqD d))) := by
  refine piW (piOr (piOr (pi_list (tg := tg) (pe_frz h)) (pi_tup (tg := tg) (pe_frz h))) (pi_kD (tg := tg) (pe_frz h))) fun σ H R ⟨F, s, k, w⟩ => ?_
  have w := w.bind
  cases q : frz m s with
  | bad => rw [q] at w; exact w.elim
  | err u s' => exact .inl (.inl ⟨F, s, k, by rw [q] at w ⊢; exact w⟩)
  | ok d s1 =>
    rw [q] at w
    obtain ⟨ds, e1, w⟩ := Wp.lift w
    cases d with
    | list xs =>
      cases (show some xs = some ds from e1)
      refine .inl (.inl ⟨F, s, k, ?_⟩)
      rw [q]
      intro v H1 ad
      cases ad.rp with
      | lst a b => exact ⟨_, rfl, ⟨_, (hid_le.rdK a).sqL⟩, w _ H1 ad.ok ad.fr (J_list a b)⟩
    | tuple xs =>
      cases (show some xs = some ds from e1)
      refine .inl (.inr ⟨F, s, k, ?_⟩)
      rw [q]
      intro v H1 ad
      cases ad.rp with
      | tup a b => exact ⟨_, rfl, ⟨_, hid_le.sqT a⟩, w _ H1 ad.ok ad.fr (J_tup a b)⟩
    | dict kvs =>
      obtain ⟨m', hm, e2⟩ := Option.map_eq_some_iff.mp (show (ktD kvs).map _ = some ds from e1)
      subst e2
      refine .inr ⟨F, s, k, ?_⟩
      rw [q]
      intro v H1 ad
      obtain ⟨p, o, xs, rfl, hp, dd, r⟩ := ad.rp.dct hm
      exact ⟨p, o, xs, rfl, (hid_iff.mp hp).2, dd, w _ H1 ad.ok ad.fr (J_kD hp r)⟩
    | _ => cases e1
theorem W_vals {tg : Expr} {ap cp : Pos} (h : PE X e (tE X.K EC W m)) (hb : attributeBase e "values" X.env (eval e X.env) = eval e X.env) (hl : (ap.endLine == cp.line) = true) : PI X tg (.Call (.Attribute e "values" ap) [] [] cp) (tSr X.K EC W ((frz m).bind fun d => lift (valsD d))) :=
  piW (pi_vD (tg := tg) (pe_frz h) hb hl) fun σ H R ⟨F, s, k, w⟩ => ⟨F, s, k, w.bind.mono fun d s1 hd v H1 ad => by
    obtain ⟨ds, e1, hd⟩ := hd.lift
    cases d with
    | dict kvs =>
      obtain ⟨m', hm, e2⟩ := Option.map_eq_some_iff.mp (show (ktD kvs).map _ = some ds from e1)
      subst e2
      obtain ⟨p, o, xs, rfl, hp, dd, r⟩ := ad.rp.dct hm
      exact ⟨p, o, xs, rfl, (hid_iff.mp hp).2, dd, r.rel, hd _ H1 ad.ok ad.fr (J_vD hp r)⟩
    | _ => cases e1⟩
theorem J_rng {K : PySem.W.Frag} {N : NS} {H : Hp} (lo : Int) (n : Nat) : JOk K N H ((List.range n).map fun (i : Nat) => PyData.int (lo + (i : Int))) (Itr lo n) := fun N1 H1 hd l i => by
  refine ⟨fun d e => ?_, fun e => ?_⟩
  · by_cases hi : i < n
    · rw [List.getElem?_map, List.getElem?_range hi] at e
      cases e
      refine ⟨hi, fun x H2 y => ?_⟩
      obtain ⟨rfl, rfl⟩ := y
      exact ⟨.inl rfl, .int _⟩
    · rw [List.getElem?_eq_none (by simpa using hi)] at e
      cases e
  · have := List.getElem?_eq_none_iff.mp e
    exact (show n ≤ i by simpa using this)
theorem W_rng1 {tg : Expr} {n : Str} {p : Pos} (hn : n = "range") (hg : Gl X n) (hm : X.mg n = none) (h : PE X a (tE X.K EC W ma)) (n1 : noStar a = true) :
    PI X tg (.Call (.Name n p) [a] [] pos) (tSr X.K EC W (((frz ma).bind fun d => (M.pure []).bind fun ds => M.pure (d :: ds)).bind fun ds => lift (rngD ds))) := by
  subst hn
  refine piW (pi_range1 hg hm (pa_cons (pe_frz h) pa_nil (star_cons n1 _)) (star_cons n1 _)) fun σ H R ⟨F, s, k, w⟩ => ⟨F, s, k, w.bind.bind.mono fun d s1 hd v H1 ad => ?_⟩
  have hd : Wp X.K EC W F s σ H (lift (rngD [d]) s1) _ := hd
  obtain ⟨r, e, hd⟩ := hd.lift
  cases d with
  | int n =>
    have e : (if -(2 ^ 62) ≤ n ∧ n < 2 ^ 62 then some ((List.range n.toNat).map fun (i : Nat) => PyData.int (i : Int)) else none) = some r := e
    split at e
    · rename_i c
      cases e
      cases ad.rp
      refine ⟨n, rfl, c.1, c.2, hd _ _ ad.ok ad.fr ?_⟩
      have z := J_rng (K := X.K) (N := Nn F s1 σ) (H := H1) 0 n.toNat
      simpa using z
    · cases e
  | _ => cases e
theorem W_rng2 {tg : Expr} {n : Str} {p : Pos} (hn : n = "range") (hg : Gl X n) (hm : X.mg n = none) (h : PE X a (tE X.K EC W ma)) (h2 : PE X b (tE X.K EC W mb)) (n1 : noStar a = true) (n2 : noStar b = true) :
    PI X tg (.Call (.Name n p) [a, b] [] pos) (tSr X.K EC W (((frz ma).bind fun d => ((frz mb).bind fun d => (M.pure []).bind fun ds => M.pure (d :: ds)).bind fun ds => M.pure (d :: ds)).bind fun ds => lift (rngD ds))) := by
  subst hn
  refine piW (pi_range2 hg hm (pa_cons (pe_frz h) (pa_cons (pe_frz h2) pa_nil (star_cons n2 _)) (star_cons n1 _)) (by rw [star_cons n1, star_cons n2] <;> rfl) (star_cons n2 _)) fun σ H R ⟨F, s, k, w⟩ => ⟨F, s, k, w.bind.bind.mono fun d s1 hd v H1 ad => ?_⟩
  refine ⟨F, s1, ad.ok, ((hd.on ad.fr).bind.bind).mono fun d2 s2 hd v2 H2 ad2 => ?_⟩
  have hd : Wp X.K EC W F s σ H (lift (rngD [d, d2]) s2) _ := hd
  obtain ⟨r, e, hd⟩ := hd.lift
  have r1 := Rp.mono ad2.fr.le _ _ ad.rp
  cases d with
  | int n =>
    cases d2 with
    | int k2 =>
      have e : (if -(2 ^ 62) ≤ n ∧ n < 2 ^ 62 ∧ -(2 ^ 62) ≤ k2 ∧ k2 < 2 ^ 62 then some ((List.range (k2 - n).toNat).map fun (i : Nat) => PyData.int (n + (i : Int))) else none) = some r := e
      split at e
      · rename_i c
        cases e
        cases r1
        cases ad2.rp
        exact ⟨n, k2, rfl, c, hd _ _ ad2.ok (ad.fr.trans ad2.fr) (J_rng n (k2 - n).toNat)⟩
      · cases e
    | _ => cases e
  | _ => cases e
/-! ### two things at once -/
theorem J_pair {K : PySem.W.Frag} {N1 : NS} {H1 : Hp} (hd : Dm N1 H1) {T : Addr} {x y : V} {d d' : D} (hT : H1 T = none) (r : Rp K (Hid N1 H1) x d) (r' : Rp K (Hid N1 H1) y d') :
    (upd H1 T (.tup [x, y]) = H1 ∨ ∃ p o, H1 p = none ∧ upd H1 T (.tup [x, y]) = upd H1 p o) ∧ Rp K (Hid N1 (upd H1 T (.tup [x, y]))) (.ref T) (.tuple [d, d']) :=
  ⟨.inr ⟨T, _, hT, rfl⟩, hd.tup hT (.cons r (.cons r' .nil))⟩
theorem zip_get {ds es : List D} {i : Nat} {d : D} (h : ((ds.zip es).map fun p => PyData.tuple [p.1, p.2])[i]? = some d) : ∃ x y, ds[i]? = some x ∧ es[i]? = some y ∧ d = .tuple [x, y] := by
  rw [List.getElem?_map] at h
  obtain ⟨⟨x, y⟩, e, rfl⟩ := Option.map_eq_some_iff.mp h
  obtain ⟨e1, e2⟩ := List.getElem?_zip_eq_some.mp e
  exact ⟨x, y, e1, e2, rfl⟩
theorem zip_none {ds es : List D} {i : Nat} (h : ((ds.zip es).map fun p => PyData.tuple [p.1, p.2])[i]? = none) : ds.length ≤ i ∨ es.length ≤ i := by
  have z := List.getElem?_eq_none_iff.mp h
  simp only [List.length_map, List.length_zip] at z
  omega
theorem J_zipL {K : PySem.W.Frag} {N : NS} {H : Hp} {a b : Addr} {vs ws : List V} {ds es : List D} (h : RdK K (Hid N H) a vs) (r : RpA K (Hid N H) vs ds) (h' : RdK K (Hid N H) b ws) (r' : RpA K (Hid N H) ws es) :
    JOk K N H ((ds.zip es).map fun p => .tuple [p.1, p.2]) (Itz K a b) := fun N1 H1 hd l i => by
  have h1 : SqL K H1 a vs := (hid_le.rdK (l.rdK h)).sqL
  have h2 : SqL K H1 b ws := (hid_le.rdK (l.rdK h')).sqL
  refine ⟨fun d e => ?_, fun e => ⟨vs, ws, h1, h2, by rw [r.length, r'.length]; exact zip_none e⟩⟩
  obtain ⟨x, y, e1, e2, rfl⟩ := zip_get e
  obtain ⟨v, f1, g1⟩ := r.get e1
  obtain ⟨u, f2, g2⟩ := r'.get e2
  refine ⟨⟨vs, ws, v, u, h1, h2, f1, f2⟩, fun z H2 q => ?_⟩
  obtain ⟨T, x', y', rfl, hT, rfl, q1, q2⟩ := q
  cases (q1 vs h1).symm.trans f1
  cases (q2 ws h2).symm.trans f2
  exact J_pair hd hT (Rp.mono l _ _ g1) (Rp.mono l _ _ g2)
theorem J_zipT {K : PySem.W.Frag} {N : NS} {H : Hp} {a b : Addr} {vs ws : List V} {ds es : List D} (h : SqT K (Hid N H) a vs) (r : RpA K (Hid N H) vs ds) (h' : SqT K (Hid N H) b ws) (r' : RpA K (Hid N H) ws es) :
    JOk K N H ((ds.zip es).map fun p => .tuple [p.1, p.2]) (ItzT K a b) := fun N1 H1 hd l i => by
  have h1 : SqT K H1 a vs := hid_le.sqT (l.sqT h)
  have h2 : SqT K H1 b ws := hid_le.sqT (l.sqT h')
  refine ⟨fun d e => ?_, fun e => ⟨vs, ws, h1, h2, by rw [r.length, r'.length]; exact zip_none e⟩⟩
  obtain ⟨x, y, e1, e2, rfl⟩ := zip_get e
  obtain ⟨v, f1, g1⟩ := r.get e1
  obtain ⟨u, f2, g2⟩ := r'.get e2
  refine ⟨⟨vs, ws, v, u, h1, h2, f1, f2⟩, fun z H2 q => ?_⟩
  obtain ⟨T, x', y', rfl, hT, rfl, q1, q2⟩ := q
  cases (q1 vs h1).symm.trans f1
  cases (q2 ws h2).symm.trans f2
  exact J_pair hd hT (Rp.mono l _ _ g1) (Rp.mono l _ _ g2)
theorem W_zip {elts : List Expr} {kk : Nat} {tp : Pos} {n : Str} {p : Pos} (hn : n = "zip") (hg : Gl X n) (hm : X.mg n = none) (h : PE X a (tE X.K EC W ma)) (h2 : PE X b (tE X.K EC W mb)) (n1 : noStar a = true) (n2 : noStar b = true) :
    PI X (.Tuple elts kk tp) (.Call (.Name n p) [a, b] [] pos) (tSr X.K EC W ((frz ma).bind fun x => (frz mb).bind fun y => lift (zipD x y))) := by
  subst hn
  refine piW (pi_zipA hg hm (pa_cons (pe_frz h) (pa_cons (pe_frz h2) pa_nil (star_cons n2 _)) (star_cons n1 _)) (star_cons n1 _) (star_all [b] pos X.env (by rw [List.all_cons, n2] <;> rfl))) fun σ H R ⟨F, s, k, w⟩ => ⟨F, s, k, w.bind.mono fun d s1 hd v H1 ad => ?_⟩
  refine ⟨F, s1, ad.ok, ((hd.on ad.fr).bind).mono fun d2 s2 hd v2 H2 ad2 => ?_⟩
  obtain ⟨r, e, hd⟩ := hd.lift
  have r1 := Rp.mono ad2.fr.le _ _ ad.rp
  unfold zipD at e
  split at e
  · cases e
    cases r1 with
    | lst q1 q2 =>
      cases ad2.rp with
      | lst q3 q4 => exact ⟨_, _, _, _, rfl, .inl ⟨(hid_le.rdK q1).sqL, (hid_le.rdK q3).sqL, hd _ _ ad2.ok (ad.fr.trans ad2.fr) (J_zipL q1 q2 q3 q4)⟩⟩
  · cases e
    cases r1 with
    | tup q1 q2 =>
      cases ad2.rp with
      | tup q3 q4 => exact ⟨_, _, _, _, rfl, .inr ⟨hid_le.sqT q1, hid_le.sqT q3, hd _ _ ad2.ok (ad.fr.trans ad2.fr) (J_zipT q1 q2 q3 q4)⟩⟩
  · cases e
/-! ### numbered, backwards -/
theorem J_enu {K : PySem.W.Frag} {N : NS} {H : Hp} {a : Addr} {vs : List V} {ds : List D} (h : RdK K (Hid N H) a vs) (r : RpA K (Hid N H) vs ds) : JOk K N H (ds.zipIdx.map fun p => .tuple [.int (p.2 : Int), p.1]) (Ite K a) := fun N1 H1 hd l i => by
  have h1 : SqL K H1 a vs := (hid_le.rdK (l.rdK h)).sqL
  refine ⟨fun d e => ?_, fun e => ⟨vs, h1, ?_⟩⟩
  · rw [List.getElem?_map, List.getElem?_zipIdx] at e
    obtain ⟨⟨x, j⟩, e1, rfl⟩ := Option.map_eq_some_iff.mp e
    obtain ⟨y, e2, e3⟩ := Option.map_eq_some_iff.mp e1
    cases e3
    obtain ⟨v, f1, g1⟩ := r.get e2
    refine ⟨⟨vs, v, h1, f1⟩, fun z H2 q => ?_⟩
    obtain ⟨T, x', rfl, hT, rfl, q1⟩ := q
    cases (q1 vs h1).symm.trans f1
    have z := J_pair hd hT (.int (i : Int)) (Rp.mono l _ _ g1)
    simpa using z
  · have z := List.getElem?_eq_none_iff.mp e
    rw [r.length]
    simpa using z
theorem J_rev {K : PySem.W.Frag} {N : NS} {H : Hp} {a : Addr} {vs : List V} {ds : List D} (h : RdK K (Hid N H) a vs) (r : RpA K (Hid N H) vs ds) : JOk K N H ds.reverse (Itv K a vs.length) := fun N1 H1 hd l i => by
  have h1 : SqL K H1 a vs := (hid_le.rdK (l.rdK h)).sqL
  have hl := r.length
  refine ⟨fun d e => ?_, fun e => ?_⟩
  · have hi : i < ds.length := by
      have := (List.getElem?_eq_some_iff.mp e).1
      simpa using this
    rw [List.getElem?_reverse hi] at e
    obtain ⟨v, f1, g1⟩ := r.get e
    rw [← hl] at f1
    refine ⟨⟨by rw [hl]; exact hi, vs, v, h1, f1⟩, fun z H2 q => ?_⟩
    obtain ⟨rfl, q⟩ := q
    cases (q vs h1).symm.trans f1
    exact ⟨.inl rfl, Rp.mono l _ _ g1⟩
  · have z := List.getElem?_eq_none_iff.mp e
    show vs.length ≤ i
    rw [hl]
    simpa using z
theorem J_revT {K : PySem.W.Frag} {N : NS} {H : Hp} {a : Addr} {vs : List V} {ds : List D} (h : SqT K (Hid N H) a vs) (r : RpA K (Hid N H) vs ds) : JOk K N H ds.reverse (ItvT K a vs.length) := fun N1 H1 hd l i => by
  have h1 : SqT K H1 a vs := hid_le.sqT (l.sqT h)
  have hl := r.length
  refine ⟨fun d e => ?_, fun e => ?_⟩
  · have hi : i < ds.length := by
      have := (List.getElem?_eq_some_iff.mp e).1
      simpa using this
    rw [List.getElem?_reverse hi] at e
    obtain ⟨v, f1, g1⟩ := r.get e
    rw [← hl] at f1
    refine ⟨⟨by rw [hl]; exact hi, vs, v, h1, f1⟩, fun z H2 q => ?_⟩
    obtain ⟨rfl, q⟩ := q
    cases (q vs h1).symm.trans f1
    exact ⟨.inl rfl, Rp.mono l _ _ g1⟩
  · have z := List.getElem?_eq_none_iff.mp e
    show vs.length ≤ i
    rw [hl]
    simpa using z
theorem W_rvd {tg : Expr} {n : Str} {p : Pos} (hn : n = "reversed") (hg : Gl X n) (hm : X.mg n = none) (h : PE X a (tE X.K EC W ma)) (n1 : noStar a = true) : PI X tg (.Call (.Name n p) [a] [] pos) (tSr X.K EC W ((frz ma).bind fun x => lift (revD x))) := by
  subst hn
  refine piW (pi_revA hg hm (pe_frz h) (star_cons n1 _)) fun σ H R ⟨F, s, k, w⟩ => ⟨F, s, k, w.bind.mono fun d s1 hd v H1 ad => ?_⟩
  obtain ⟨r, e, hd⟩ := hd.lift
  cases d with
  | list xs =>
    cases (show some xs.reverse = some r from e)
    cases ad.rp with
    | lst q1 q2 => exact ⟨_, _, rfl, .inl ⟨(hid_le.rdK q1).sqL, hd _ _ ad.ok ad.fr (J_rev q1 q2)⟩⟩
  | tuple xs =>
    cases (show some xs.reverse = some r from e)
    cases ad.rp with
    | tup q1 q2 => exact ⟨_, _, rfl, .inr ⟨hid_le.sqT q1, hd _ _ ad.ok ad.fr (J_revT q1 q2)⟩⟩
  | _ => cases e
end
end Hg
set_option Elab.async false
set_option linter.all false
set_option maxRecDepth 100000
/-! enumerate of a tuple. -/
namespace Hg
open PySem PySem.Spec PyProof.Rows L2
open Sem (wp)
set_option maxHeartbeats 1000000 in
theorem meets_enuB {v : Value} {o : Obj} {H : Heap → Prop} (B : Begins v o H) :
    Meets (Builtin.«enumerate.__new__» ⟨[.type "enumerate", v], []⟩) (fun _ R s => H s.heap ∧
      R (.ok (.ret (.ref (s.heap.push o).objs.size))) { s with heap := (s.heap.push o).push { cls := .type "enumerate", data := .fields #[.none, .bool false, .ref s.heap.objs.size, rawInt 0, .none, .none] } }) :=
  .of_wp fun prog w A R s h => by
    obtain ⟨hp, g, d, tk, os⟩ := s; obtain ⟨h1, h⟩ := h
    have hsub := sub_enumerate
    have q1 : ∀ {A' : Around} {E : Value → Shared → Prop} {Q : Value → Shared → Prop}, Q (.ref hp.objs.size) ⟨hp.push o, g, d, tk, os⟩ → wpAny (model prog w) A' (pyIter v) Q E ⟨hp, g, d, tk, os⟩ :=
      fun q => B.iter prog w _ _ ⟨hp, g, d, tk, os⟩ _ h1 q
    wp_walk using q1
    refine wpAny_stack_any fun st => wpAny_pure ?_
    split
    · rename_i c _ _ _ _ _
      cases (c == Value.type "enumerate")
      · wp_walk using q1
        exact ⟨_, rfl, h⟩
      · wp_walk using q1
        exact ⟨_, rfl, h⟩
    · wp_walk using q1
      exact ⟨_, rfl, h⟩
section
variable {prog : Program} {w : World} {A : Around} {E : Value → Shared → Prop} {s : Shared}
theorem enu_begins {v : Value} {o : Obj} {H : Heap → Prop} {Q : Value → Shared → Prop} (B : Begins v o H) (h1 : H s.heap)
    (h : ∀ h', IsEnum h' (s.heap.objs.size + 1) s.heap.objs.size 0 .none → h'.get? s.heap.objs.size = some o → h'.objs.size = s.heap.objs.size + 2 →
      (∀ b o, s.heap.get? b = some o → h'.get? b = some o) → Q (.ref (s.heap.objs.size + 1)) { s with heap := h' }) :
    wpAny (model prog w) A (call (.type "enumerate") [v]) Q E s := by
  refine callType_new F.called_enumerate (by decide) (F.typeCall_enumerate_1 _) (F.newCall_enumerate_1 _) (fun obj => F.args_object_init_2 obj _) F.entry_enumerate_new
    (meets_enuB B) ⟨h1, ?_⟩
  have hz : (s.heap.push o).objs.size = s.heap.objs.size + 1 := Heap.size_push ..
  show _ ∧ _
  rw [hz]
  have he : IsEnum ((s.heap.push o).push { cls := .type "enumerate", data := .fields #[.none, .bool false, .ref s.heap.objs.size, rawInt 0, .none, .none] }) (s.heap.objs.size + 1) s.heap.objs.size 0 .none := by
    have := Heap.get?_push_size (s.heap.push o) (o := { cls := .type "enumerate", data := .fields #[.none, .bool false, .ref s.heap.objs.size, rawInt 0, .none, .none] }) rfl
    rw [hz] at this; exact this
  refine ⟨⟨_, he, rfl⟩, h _ he (Heap.get?_push_of_some _ (Heap.get?_push_size _ B.free)) (by rw [Heap.size_push, hz]) fun b o x => Heap.get?_push_of_some _ (Heap.get?_push_of_some _ x)⟩
end
section
variable {prog : Program} {w : World} {A : Around} {E : Value → Shared → Prop} {s : Shared}
theorem enuT_end {e it a : Addr} {items : Array Value} {j : Int} {i : Nat} {old : Value} {Q : Option Value → Shared → Prop} (hh : A.in1.handled = none) (he : IsEnum s.heap e it j old) (hit : s.heap.IsTupleIter it a i) (ht : s.heap.IsTuple a items) (hx : items[i]? = none)
    (hQ : ∀ h', Heap.ExtBut it s.heap h' → Q none { s with heap := h' }) : wpAny (model prog w) A (pyNext (.ref e)) Q E s := by
  have hT : s.TypeIs (.ref e) "enumerate" := ⟨_, he, rfl⟩
  unfold pyNext
  refine wpAny_bind (wpAny_attempt (wpAny_callSpecial?_slot (name := Str.ofString "__next__") hT F.slot_enumerate_next
    (wpAny_call_entry F.slot_enumerate_next hT F.entry_enumerate_next ?_ (F.args_enumerate_next_1 _))))
  show wpAny _ _ (field (.ref e) 2 >>= _) _ _ _
  refine wpAny_bind (wpAny_field he rfl (x := .ref it) rfl ?_)
  refine wpAny_bind (wpAny_nextOf_tuple_end hh hit ht hx fun h' x he' hx' => ?_)
  obtain ⟨o, ho, hc⟩ := hx'
  refine wpAny_bind (wpAny_isInstance (T := "StopIteration") (b := true) ⟨o, ho, hc⟩ isSubtype_stop ?_)
  exact wpAny_pure (hQ _ he')
end
/-- the tuple at a as it stands at each turn, each item in a new pair -/
def Iet (K : PySem.W.Frag) (a : Addr) : It :=
  ⟨fun i H => ∃ (xs : List V) (x : V), SqT K H a xs ∧ xs[i]? = some x, fun i H v H' => ∃ T x, v = .ref T ∧ H T = none ∧ H' = upd H T (.tup [.int (i : Nat), x]) ∧ ∀ xs, SqT K H a xs → xs[i]? = some x, fun i H => ∃ xs : List V, SqT K H a xs ∧ xs.length ≤ i⟩
theorem turn_enuT {P : Program} {w : World} {K : PySem.W.Frag} {elts : List Expr} {kk : Nat} {tpos : Pos} (a e it : Addr) (hai : a ≠ it) (hea : e ≠ a) :
    Turn P w K (.Tuple elts kk tpos) (Iet K a) [e, it] e (fun i h => (∃ old, IsEnum h e it ((i : Nat) : Int) old) ∧ h.IsTupleIter it a i ∧ e ≠ it) where
  mem := by simp
  obj := fun i h st b hb => by
    obtain ⟨⟨old, he⟩, ⟨o, ho, hc, hd⟩, _⟩ := st
    have e' : b = e ∨ b = it := by simpa using hb
    rcases e' with z | z
    · rw [z]; exact ⟨_, he, fun v q => nomatch q⟩
    · rw [z]; exact ⟨o, ho, fun v q => by rw [hd] at q; cases q⟩
  keep := fun i h h' st k => let ⟨⟨old, he⟩, hi, hne⟩ := st; ⟨⟨old, k e (by simp) _ he⟩, hi.at fun o q => k it (by simp) o q, hne⟩
  item := by
    intro X hP hw hK hc i pins s σ H E I hf st hg
    subst hP hw hK
    obtain ⟨⟨old, he⟩, hit, hne⟩ := st
    obtain ⟨xs, x, hq, hx⟩ := hg
    obtain ⟨its, rv, p, hz⟩ := I.tuple hq
    obtain ⟨u, hu, ru⟩ := rv.get hx
    have hel : e < s.heap.objs.size := Heap.lt_size he
    have hil : it < s.heap.objs.size := by obtain ⟨_, q, _⟩ := hit; exact Heap.lt_size q
    have hlt : i < its.toArray.size := by
      have := (List.getElem?_eq_some_iff.mp hu).1
      simpa using this
    have D := Draws.tuple (prog := X.prog) (w := X.w) (A := X.A.in1) (I.ok.hd hc) it a hai its.toArray
    refine wpAny_pyNext_enum_itemC (c := ((i : Nat) : Int)) D he ⟨hit, p⟩ hlt hne (by simp [hne, hea]) fun y h' tk hy ho hst' hT hsz hk => ?_
    obtain ⟨hit', _⟩ := hst'
    have hy : its.toArray[i]? = some y := hy
    have hyu : y = u := by
      have z : its.toArray[i]? = some u := by simpa using hu
      exact Option.some.inj (hy.symm.trans z)
    subst hyu
    refine ⟨_, rfl, wpAny_letOwnedTupleGo_enum (s := { s with heap := h', toks := tk + 1 }) ho fun h'' he' sb => ?_⟩
    have hT2 : h''.get? s.heap.objs.size = some { cls := .type "tuple", data := .seq #[.int i tk, y] } := (sb.2 _ (Nat.ne_of_gt hel)).trans hT
    have new : ObjOk X.prog X.w (upd H s.heap.objs.size (.tup [.int (i : Nat), x])) h'' s.heap.objs.size (.tup [.int (i : Nat), x]) :=
      ⟨by show 2 ≤ sizeLine; decide, [.int i tk, y], .cons ⟨_, rfl⟩ (.cons ru .nil), ⟨_, hT2, rfl, _, rfl⟩⟩
    have I1 : Inv X pins σ (upd H s.heap.objs.size (.tup [.int (i : Nat), x])) { s with heap := h'', toks := tk + 1 } :=
      I.turnedNew (ch := [e, it]) (fun b ob hb q => (sb.2 b (fun z => hb (by simp [z]))).trans (hk b ob (fun z => hb (by simp [z])) (fun z => hb (by simp [z])) q)) hf (Nat.le_refl _) new
    refine ⟨.ref s.heap.objs.size, _, I1, rfl, ⟨_, x, rfl, I.hok.fresh (Nat.le_refl _), rfl, fun ys hy => by rw [I.tuple_inj hy hq]; exact hx⟩, ⟨⟨y, ?_⟩, hit'.at fun o q => (sb.2 it (Ne.symm hne)).trans q, hne⟩, fun b hb => ?_⟩
    · have e1 : ((i + 1 : Nat) : Int) = (i : Int) + 1 := by omega
      rw [e1]; exact he'
    · have hb' : b < s.heap.objs.size := by
        have e' : b = e ∨ b = it := by simpa using hb
        rcases e' with z | z
        · rw [z]; exact hel
        · rw [z]; exact hil
      rw [upd_ne (Nat.ne_of_lt hb')]
      exact (hf b hb).1
  done := by
    intro X hP hw hK hc i pins s σ H E I hf st hg
    subst hP hw hK
    obtain ⟨⟨old, he⟩, hit, hne⟩ := st
    obtain ⟨xs, hq, hx⟩ := hg
    obtain ⟨its, rv, p, hz⟩ := I.tuple hq
    obtain ⟨f0, f1, f2, f3, f4, f5⟩ := hf it (by simp)
    have hl := rv.length
    exact enuT_end (I.ok.hd hc) he hit p (by simp; omega) fun h' eb => ⟨rfl, I.turned (t' := s.toks) (fun b o hb q => eb b o hb q) f0 f1 f3 f4 f5⟩
  self := fun A i s Q E st h => let ⟨⟨_, he⟩, _⟩ := st; wpAny_pyIter_enum he h
def iEnuA (K : PySem.W.Frag) (ta : TA) : TI := fun σ H R => ta σ H fun vs H1 => ∃ a xs, vs = [.ref a] ∧ ((SqL K H1 a xs ∧ R (Ite K a) H1) ∨ (SqT K H1 a xs ∧ R (Iet K a) H1))
theorem pi_enuA {X : Cx} {e : Expr} {ta : TA} {p pos tpos : Pos} {elts : List Expr} {kk : Nat} (hg : Gl X "enumerate") (hm : X.mg "enumerate" = none) (ha : PA X [e] ta) (hs : starEach [e] X.env = [(false, eval e X.env)] := by rfl) :
    PI X (.Tuple elts kk tpos) (.Call (.Name "enumerate" p) [e] [] pos) (iEnuA X.K ta) := by
  refine ⟨fun pins s σ H R I h => ?_⟩
  refine Call_ (ld_blt I hg hm boot_enumerate (PyProof.Rows.callWith_type1 (thn (ha.run pos pins s σ H _ I h) fun us s1 ⟨vs, H1, I1, r1, q1⟩ => ?_) hs rfl))
  obtain ⟨a, xs, ex, q1⟩ := q1
  subst ex
  have fp : ∀ b, b ∈ [s1.heap.objs.size + 1, s1.heap.objs.size] → FpOk X pins H1 b := fun b hb => by
    have e' : b = s1.heap.objs.size + 1 ∨ b = s1.heap.objs.size := by simpa using hb
    have hle : s1.heap.objs.size ≤ b := by
      rcases e' with z | z
      · rw [z]; exact Nat.le_add_right _ _
      · rw [z]; exact Nat.le_refl _
    exact I1.fpOk hle (I1.hok.fresh hle)
  cases r1 with
  | cons r rr =>
    cases rr
    cases r
    rcases q1 with ⟨hq, q⟩ | ⟨hq, q⟩
    · obtain ⟨its, rv, p', hz⟩ := I1.list hq
      refine call_enumerate_list p'.isList fun h' he hit hsz hk => wpAny_pyIter_enum he ?_
      have I2 : Inv X pins σ H1 { s1 with heap := h' } := I1.kept (t' := s1.toks) hk
      exact ⟨s1.heap.objs.size + 1, [s1.heap.objs.size + 1, s1.heap.objs.size], _, _, H1, rfl, I2, turn_enum a (s1.heap.objs.size + 1) s1.heap.objs.size, ⟨⟨.none, he⟩, hit, Nat.succ_ne_self _⟩, fp, q⟩
    · obtain ⟨its, rv, p', hz⟩ := I1.tuple hq
      have hlt : a < s1.heap.objs.size := by
        obtain ⟨o1, ho1, _⟩ := id p'
        exact Heap.lt_size ho1
      refine enu_begins (begins_tuple a its.toArray) p' fun h' he hit hsz hk => wpAny_pyIter_enum he ?_
      have I2 : Inv X pins σ H1 { s1 with heap := h' } := I1.kept (t' := s1.toks) hk
      exact ⟨s1.heap.objs.size + 1, [s1.heap.objs.size + 1, s1.heap.objs.size], _, _, H1, rfl, I2, turn_enuT a (s1.heap.objs.size + 1) s1.heap.objs.size (Nat.ne_of_lt hlt) (Ne.symm (Nat.ne_of_lt (Nat.lt_succ_of_lt hlt))), ⟨⟨.none, he⟩, ⟨_, hit, rfl, rfl⟩, Nat.succ_ne_self _⟩, fp, q⟩
theorem J_enuT {K : PySem.W.Frag} {N : NS} {H : Hp} {a : Addr} {vs : List V} {ds : List D} (h : SqT K (Hid N H) a vs) (r : RpA K (Hid N H) vs ds) : JOk K N H (ds.zipIdx.map fun p => .tuple [.int (p.2 : Int), p.1]) (Iet K a) := fun N1 H1 hd l i => by
  have h1 : SqT K H1 a vs := hid_le.sqT (l.sqT h)
  refine ⟨fun d e => ?_, fun e => ⟨vs, h1, ?_⟩⟩
  · rw [List.getElem?_map, List.getElem?_zipIdx] at e
    obtain ⟨⟨x, j⟩, e1, rfl⟩ := Option.map_eq_some_iff.mp e
    obtain ⟨y, e2, e3⟩ := Option.map_eq_some_iff.mp e1
    cases e3
    obtain ⟨v, f1, g1⟩ := r.get e2
    refine ⟨⟨vs, v, h1, f1⟩, fun z H2 q => ?_⟩
    obtain ⟨T, x', rfl, hT, rfl, q1⟩ := q
    cases (q1 vs h1).symm.trans f1
    have z := J_pair hd hT (.int (i : Int)) (Rp.mono l _ _ g1)
    simpa using z
  · have z := List.getElem?_eq_none_iff.mp e
    rw [r.length]
    simpa using z
end Hg
set_option Elab.async false
set_option linter.all false
set_option maxRecDepth 100000
set_option maxHeartbeats 400000
/-! How many unlike whole numbers. -/
namespace Hg
open PySem PySem.Spec PyProof.Rows L2 RZ RT
theorem ddup_mem : ∀ {ns : List Int} {k : Int}, k ∈ ddup ns ↔ k ∈ ns
  | [], k => Iff.rfl
  | a :: r, k => by
    unfold ddup
    by_cases c : a ∈ r
    · rw [if_pos c, ddup_mem]
      exact ⟨List.mem_cons_of_mem _, fun h => (List.mem_cons.mp h).elim (fun e => e ▸ c) id⟩
    · rw [if_neg c, List.mem_cons, List.mem_cons, ddup_mem]
theorem ddup_nodup : ∀ {ns : List Int}, (ddup ns).Nodup
  | [] => List.nodup_nil
  | a :: r => by
    unfold ddup
    by_cases c : a ∈ r
    · rw [if_pos c]
      exact ddup_nodup
    · rw [if_neg c]
      exact List.nodup_cons.mpr ⟨fun z => c (ddup_mem.mp z), ddup_nodup⟩
theorem ddup_len {ns out : List Int} (h : out.Nodup) (hm : ∀ k, k ∈ out ↔ k ∈ ns) : out.length = (ddup ns).length :=
  ((List.perm_ext_iff_of_nodup h ddup_nodup).mpr fun k => (hm k).trans ddup_mem.symm).length_eq
section
variable {X : Cx} {EC : Nat → Addr} {W : WX} {a : Expr} {m : M Sl} {p p2 q pos : Pos}
theorem pe_lset {ta : TE} (hc : X.calm = true) (hg : Gl X "len") (hm : X.mg "len" = none) (hg2 : Gl X "set") (hm2 : X.mg "set" = none) (ha : PE X a ta) (na : noStar a = true) :
    PE X (.Call (.Name "len" p) [.Call (.Name "set" p2) [a] [] q] [] pos) (fun σ H Q => ta σ H fun x H1 => ∃ (l : Addr) (ns : List Int), x = .ref l ∧ SqT X.K H1 l (ns.map V.int) ∧ ns.length ≤ 1000 ∧ ∀ out : List Int, out.Nodup → (∀ k, k ∈ out ↔ k ∈ ns) → Q (.int (out.length : Nat)) H1) := by
  have st : starEach [a] X.env = (false, eval a X.env) :: starEach [] X.env := star_cons na _
  refine ⟨fun pins s σ H Q I h => Call_ (ld_blt I hg hm PySem.boot_len (PyProof.Rows.callWith_builtin1 (PyProof.Rows.args_cons ?_ rfl) rfl rfl))⟩
  refine Call_ (ld_blt I hg2 hm2 PyProof.Rows.boot_set (PyProof.Rows.callWith_type1 (PyProof.Rows.args_cons (thn (ha.run pins s σ H _ I h) fun u s1 ⟨x, H1, I1, r1, w1⟩ => PyProof.Rows.args_nil ?_) st) (by rw [st] <;> rfl) rfl))
  obtain ⟨l, ns, rfl, sq, lim, w⟩ := w1
  obtain rfl : u = Value.ref l := r1
  obtain ⟨its, rv, pt, hz⟩ := I1.tuple sq
  refine call_set_tupI ns (I1.ok.hd hc) (show s1.heap.IsTuple l its.toArray from pt) (show IntsAre its.toArray.toList ns from ints_of_vals rv) (by unfold scanBound; omega) fun h' tk c R lc keep => ?_
  have J : Inv X pins σ H1 { s1 with heap := h', toks := tk } := I1.kept fun b o e => keep b o e
  obtain ⟨o, es, ep, t, ho, hex, hd, _, nd, mem, lt, fits, sz, _, _⟩ := R
  refine PyProof.Rows.args_nil (call_len_set ho hex hd fits (by unfold scanBound at lt; omega) ⟨.int (es.toList.map keyOf).length, H1, J.tok _, ⟨_, by rw [List.length_map, Array.length_toList]⟩, w _ nd fun k => ?_⟩)
  rw [← mem k, decide_eq_true_eq]
theorem E_lset (hc : X.calm = true) (hg : Gl X "len") (hm : X.mg "len" = none) (hg2 : Gl X "set") (hm2 : X.mg "set" = none) (ha : PE X a (tE X.K EC W m)) (na : noStar a = true) :
    PE X (.Call (.Name "len" p) [.Call (.Name "set" p2) [a] [] q] [] pos) (tE X.K EC W ((frz m).bind fun d => lift (lsetD d))) :=
  peW (pe_lset hc hg hm hg2 hm2 (pe_frz ha) na) fun σ H Q ⟨F, s, k, w⟩ => ⟨F, s, k, w.bind.mono fun d s1 hd v H1 ad => by
    obtain ⟨r, e, hd⟩ := hd.lift
    have rp := ad.rp
    cases d with
    | tuple ds =>
      have e : (match intsD ds with
        | some ns => if ns.length ≤ 1000 then some (Sl.sh (.int ((ddup ns).length : Nat))) else none
        | none => none) = some r := e
      cases q : intsD ds with
      | none => rw [q] at e; cases e
      | some ns =>
        rw [q] at e
        have e : (if ns.length ≤ 1000 then some (Sl.sh (.int ((ddup ns).length : Nat))) else none) = some r := e
        by_cases c : ns.length ≤ 1000
        · rw [if_pos c] at e
          cases e
          cases rp with
          | tup sq ra =>
            cases ra.ints q
            refine ⟨_, ns, rfl, sq.imp (hid_le.rd .tup) id, c, fun out nd mm => ?_⟩
            rw [ddup_len nd mm]
            exact hd _ _ ⟨ad.ok, ad.fr, .int _⟩
        · rw [if_neg c] at e
          cases e
    | _ => cases e⟩
end
end Hg
set_option Elab.async false
set_option linter.all false
set_option maxRecDepth 100000
set_option maxHeartbeats 400000
/-! Targets, comprehensions. -/
namespace Hg
open PySem PySem.Spec PyProof.Rows L2 RZ RT
section
variable {K : PySem.W.Frag} {F : NS} {s s1 s' : S} {σ σ1 σ' : L2.St} {H H1 H' : Hp}
/-- fewer slots told -/
theorem StOk.sub (k : StOk K F s σ H) (hl : s'.length = σ'.length) (h : ∀ (j : Nat) (x : Sl), s'[j]? = some x → x ≠ .un → s[j]? = some x ∧ σ'[j]? = σ[j]?) : StOk K F s' σ' H ∧ Fr F (Nn F s σ) H (Nn F s' σ') H := by
  have own' : ∀ b, Own s' σ' b → Own s σ b := fun b ⟨j, o, e1, e2⟩ => by
    obtain ⟨f1, f2⟩ := h j _ e1 (fun z => nomatch z)
    exact ⟨j, o, f1, f2 ▸ e2⟩
  have nn : ∀ b, Nn F s' σ' b → Nn F s σ b := fun b z => z.imp id (own' b)
  have l : Le (Hid (Nn F s σ) H) (Hid (Nn F s' σ') H) := fun b u _ z => by
    obtain ⟨a, z⟩ := hid_iff.mp z
    exact hid_iff.mpr ⟨fun y => a (nn b y), z⟩
  refine ⟨⟨hl, fun j d e => ?_, fun j o e => ?_, fun i j o o' p e e' g g' => ?_, fun b z => k.ap b (own' b z), k.dom, k.tb⟩, ⟨fun _ _ => rfl, fun b u n _ z => ⟨z, fun y => n (nn b y)⟩⟩⟩
  · obtain ⟨f1, f2⟩ := h j _ e (fun z => nomatch z)
    obtain ⟨v, e1, r⟩ := k.sh j d f1
    exact ⟨v, f2.trans e1, Rp.mono l _ _ r⟩
  · obtain ⟨f1, f2⟩ := h j _ e (fun z => nomatch z)
    obtain ⟨p, e1, r⟩ := k.ow j o f1
    exact ⟨p, f2.trans e1, r.mono rfl l⟩
  · obtain ⟨f1, f2⟩ := h i _ e (fun z => nomatch z)
    obtain ⟨f3, f4⟩ := h j _ e' (fun z => nomatch z)
    exact k.inj i j o o' p f1 f3 (f2 ▸ g) (f4 ▸ g')
/-- data stored in a slot -/
theorem StOk.put (k : StOk K F s σ H) {i : Nat} {v : V} {d : D} (hi : i < s.length) (r : Rp K (Hid (Nn F s σ) H) v d) : StOk K F (s.set i (.sh d)) (σ.set i (some v)) H ∧ Fr F (Nn F s σ) H (Nn F (s.set i (.sh d)) (σ.set i (some v))) H := by
  obtain ⟨k1, f1⟩ := k.sub (s' := s.set i .un) (σ' := σ.set i (some v)) (by rw [List.length_set, List.length_set]; exact k.len) fun j x e hx => by
    by_cases hj : j = i
    · subst hj
      rw [List.getElem?_set_self hi] at e
      cases e
      exact absurd rfl hx
    · rw [List.getElem?_set_ne (Ne.symm hj)] at e
      exact ⟨e, by rw [List.getElem?_set_ne (Ne.symm hj)]⟩
  have hiσ : i < σ.length := by rw [← k.len]; exact hi
  have own' : ∀ b, Own (s.set i (.sh d)) (σ.set i (some v)) b ↔ Own (s.set i .un) (σ.set i (some v)) b := fun b => by
    constructor
    · rintro ⟨j, o, e1, e2⟩
      by_cases hj : j = i
      · subst hj
        rw [List.getElem?_set_self hi] at e1
        cases e1
      · rw [List.getElem?_set_ne (Ne.symm hj)] at e1
        exact ⟨j, o, by rw [List.getElem?_set_ne (Ne.symm hj)]; exact e1, e2⟩
    · rintro ⟨j, o, e1, e2⟩
      by_cases hj : j = i
      · subst hj
        rw [List.getElem?_set_self hi] at e1
        cases e1
      · rw [List.getElem?_set_ne (Ne.symm hj)] at e1
        exact ⟨j, o, by rw [List.getElem?_set_ne (Ne.symm hj)]; exact e1, e2⟩
  have nn : Nn F (s.set i (.sh d)) (σ.set i (some v)) = Nn F (s.set i .un) (σ.set i (some v)) := by
    funext b
    exact propext (or_congr Iff.rfl (own' b))
  refine ⟨⟨by rw [List.length_set, List.length_set]; exact k.len, fun j d' e => ?_, fun j o e => ?_, fun a b o o' p e e' g g' => ?_, fun b z => k1.ap b ((own' b).mp z), k1.dom, k1.tb⟩, by rw [nn]; exact f1⟩
  · rw [nn]
    by_cases hj : j = i
    · subst hj
      rw [List.getElem?_set_self hi] at e
      cases e
      exact ⟨v, List.getElem?_set_self hiσ, Rp.mono f1.le _ _ r⟩
    · rw [List.getElem?_set_ne (Ne.symm hj)] at e
      exact k1.sh j d' (by rw [List.getElem?_set_ne (Ne.symm hj)]; exact e)
  · rw [nn]
    by_cases hj : j = i
    · subst hj
      rw [List.getElem?_set_self hi] at e
      cases e
    · rw [List.getElem?_set_ne (Ne.symm hj)] at e
      exact k1.ow j o (by rw [List.getElem?_set_ne (Ne.symm hj)]; exact e)
  · have back : ∀ {j : Nat} {u : Ob}, (s.set i (.sh d))[j]? = some (.ow u) → (s.set i .un)[j]? = some (.ow u) := fun {j u} e => by
      by_cases hj : j = i
      · subst hj
        rw [List.getElem?_set_self hi] at e
        cases e
      · rw [List.getElem?_set_ne (Ne.symm hj)] at e ⊢
        exact e
    exact k1.inj a b o o' p (back e) (back e') g g'
/-- behind stores -/
structure AftT (K : PySem.W.Frag) (F : NS) (s : S) (σ : L2.St) (H : Hp) (ix : List Nat) (s' : S) (σ' : L2.St) (H' : Hp) : Prop where
  ok : StOk K F s' σ' H'
  fr : Fr F (Nn F s σ) H (Nn F s' σ') H'
  len : σ'.length = σ.length
  out : ∀ j, j ∉ ix → σ'[j]? = σ[j]?
end
def tPut (K : PySem.W.Frag) (tg : Tg) : TG := fun v σ H Q => ∃ F s d, StOk K F s σ H ∧ Rp K (Hid (Nn F s σ) H) v d ∧ ∃ s', putT tg d s = .ok () s' ∧ ∀ σ', AftT K F s σ H (tgIx tg) s' σ' H → Q σ' H
def tPuts (K : PySem.W.Frag) (tg : Tgs) : TGs := fun vs σ H Q => ∃ F s ds, StOk K F s σ H ∧ RpA K (Hid (Nn F s σ) H) vs ds ∧ ∃ s', putTs tg ds s = .ok () s' ∧ ∀ σ', AftT K F s σ H (tgsIx tg) s' σ' H → Q σ' H
section
variable {X : Cx} {e : Expr} {es : List Expr}
theorem pgW {t t' : TG} (h : PG X e t) (w : ∀ v σ H Q, t' v σ H Q → t v σ H Q) : PG X e t' := ⟨fun pins s σ H v u Q I r q => h.run pins s σ H v u Q I r (w _ _ _ _ q)⟩
theorem pgsW {t t' : TGs} (h : PGs X es t) (w : ∀ v σ H Q, t' v σ H Q → t v σ H Q) : PGs X es t' := ⟨fun pins s σ H v u Q I r q => h.run pins s σ H v u Q I r (w _ _ _ _ q)⟩
theorem pgOr {t t' : TG} (h : PG X e t) (h' : PG X e t') : PG X e (fun v σ H Q => t v σ H Q ∨ t' v σ H Q) := ⟨fun pins s σ H v u Q I r q => q.elim (h.run pins s σ H v u Q I r) (h'.run pins s σ H v u Q I r)⟩
theorem setS_ok {i : Nat} {r : Sl} {s s' : S} {u : Unit} (h : setS i r s = .ok u s') : i < s.length ∧ s' = s.set i r := by
  unfold setS at h
  split at h
  · rename_i c
    cases h
    exact ⟨c, rfl⟩
  · cases h
theorem T_name {i : Nat} (h : PG X e (gName i)) : PG X e (tPut X.K (.name i)) := pgW h fun v σ H Q ⟨F, s, d, k, r, s', e, q⟩ => by
  obtain ⟨hi, rfl⟩ := setS_ok (show setS i (.sh d) s = .ok () s' from e)
  obtain ⟨k1, f1⟩ := k.put hi r
  exact q _ ⟨k1, f1, List.length_set, fun j hj => List.getElem?_set_ne (fun z => hj (by show j ∈ [i]; rw [← z]; exact List.mem_singleton_self i))⟩
theorem T_nil : PGs X [] (tPuts X.K .nil) := pgsW pgs_nil fun vs σ H Q ⟨F, s, ds, k, r, s', e, q⟩ => by
  cases r with
  | nil =>
    have e : R.ok () s = .ok () s' := e
    cases e
    exact ⟨rfl, q _ ⟨k, Fr.refl, rfl, fun _ _ => rfl⟩⟩
  | cons a b => cases (show R.bad = .ok () s' from e)
theorem R.bind_ok {α β : Type} {r : R α} {f : α → S → R β} {b : β} {s' : S} (h : r.bind f = .ok b s') : ∃ a s1, r = .ok a s1 ∧ f a s1 = .ok b s' := by
  cases r with
  | bad => cases h
  | err e s => cases h
  | ok a s1 => exact ⟨a, s1, rfl, h⟩
theorem M.bind_ok {α β : Type} {m : M α} {f : α → M β} {b : β} {s s' : S} (h : (m.bind f) s = .ok b s') : ∃ a s1, m s = .ok a s1 ∧ f a s1 = .ok b s' := R.bind_ok h
theorem assign_cons {env : Env} (h : noStar e = true) : (assignEach (e :: es) env).map (·.2) = assign e env :: (assignEach es env).map (·.2) := by
  cases e <;> first | rfl | (cases h)
theorem assign_len {env : Env} : ∀ {es : List Expr}, es.all noStar = true → (assignEach es env).length = es.length
  | [], _ => rfl
  | e :: es, h => by
    rw [List.all_cons, Bool.and_eq_true] at h
    have ih := assign_len (env := env) h.2
    cases e <;> first | (exact congrArg Nat.succ ih) | (cases h.1)
theorem assign_idx {env : Env} : ∀ {es : List Expr}, es.all noStar = true → (assignEach es env).findIdx? (·.1) = none
  | [], _ => rfl
  | e :: es, h => by
    rw [List.all_cons, Bool.and_eq_true] at h
    have ih := assign_idx (env := env) h.2
    have e1 : assignEach (e :: es) env = (false, assign e env) :: assignEach es env := by
      cases e <;> first | rfl | (cases h.1)
    rw [e1, List.findIdx?_cons, ih]
    rfl
theorem T_cons {t : Tg} {ts : Tgs} (n : noStar e = true) (h : PG X e (tPut X.K t)) (hs : PGs X es (tPuts X.K ts)) : PGs X (e :: es) (tPuts X.K (.cons t ts)) := pgsW (pgs_cons h hs (assign_cons n)) fun vs σ H Q ⟨F, s, ds, k, r, s', e, q⟩ => by
  cases r with
  | nil => cases (show R.bad = .ok () s' from e)
  | @cons v vs d ds a b =>
    obtain ⟨_, s1, e1, e2⟩ := M.bind_ok (show ((putT t d).bind fun _ => putTs ts ds) s = .ok () s' from e)
    refine ⟨v, vs, rfl, F, s, d, k, a, s1, e1, fun σ1 a1 => ⟨F, s1, ds, a1.ok, RpA.mono a1.fr.le _ _ b, s', e2, fun σ2 a2 => q σ2 ⟨a2.ok, a1.fr.trans a2.fr, a2.len.trans a1.len, fun j hj => ?_⟩⟩⟩
    have hj : j ∉ tgIx t ++ tgsIx ts := hj
    rw [List.mem_append, not_or] at hj
    exact (a2.out j hj.2).trans (a1.out j hj.1)
theorem putTs_len : ∀ {ts : Tgs} {ds : List D} {s s' : S}, putTs ts ds s = .ok () s' → ∀ {es : List Expr} {x : Sx}, chTs x ts es = true → ds.length = es.length
  | .nil, [], _, _, _, [], _, _ => rfl
  | .nil, [], _, _, _, _ :: _, _, h => by cases h
  | .nil, _ :: _, _, s', e, _, _, _ => by cases (show R.bad = .ok () s' from e)
  | .cons _ _, [], _, s', e, _, _, _ => by cases (show R.bad = .ok () s' from e)
  | .cons t ts, d :: ds, s, s', e, [], _, h => by cases h
  | .cons t ts, d :: ds, s, s', e, y :: es, x, h => by
    obtain ⟨_, s1, e1, e2⟩ := M.bind_ok (show ((putT t d).bind fun _ => putTs ts ds) s = .ok () s' from e)
    have h : (chT x t y && chTs x ts es) = true := h
    rw [Bool.and_eq_true] at h
    exact congrArg Nat.succ (putTs_len e2 h.2)
theorem T_tup {ts : Tgs} {kk : Nat} {pos : Pos} {x : Sx} (hc : X.calm = true) (h : PGs X es (tPuts X.K ts)) (n : es.all noStar = true) (hx : chTs x ts es = true) : PG X (.Tuple es kk pos) (tPut X.K (.tup ts)) :=
  pgW (pgOr (pg_tup hc h (assign_len n) (assign_idx n)) (pg_lst hc h (assign_len n) (assign_idx n))) fun v σ H Q ⟨F, s, d, k, r, s', e, q⟩ => by
    cases d with
    | tuple ds =>
      have e : putTs ts ds s = .ok () s' := e
      cases r with
      | tup a b => exact .inl ⟨_, _, rfl, hid_le.sqT a, by rw [b.length]; exact putTs_len e hx, F, s, ds, k, b, s', e, q⟩
    | list ds =>
      have e : putTs ts ds s = .ok () s' := e
      cases r with
      | lst a b => exact .inr ⟨_, _, rfl, (hid_le.rdK a).sqL, by rw [b.length]; exact putTs_len e hx, F, s, ds, k, b, s', e, q⟩
    | _ => cases (show R.bad = .ok () s' from e)

/-! ### comprehensions -/
theorem wipe_get {σ : L2.St} : ∀ {vs : List Nat} {j : Nat}, (wipe σ vs)[j]? = if j ∈ vs ∧ j < σ.length then some none else σ[j]?
  | [], j => by
    rw [if_neg (by simp)]
    rfl
  | v :: vs, j => by
    show ((wipe σ vs).set v none)[j]? = _
    by_cases hj : v = j
    · subst hj
      by_cases hl : v < σ.length
      · rw [List.getElem?_set_self (by rw [wipe_length]; exact hl), if_pos ⟨List.mem_cons_self, hl⟩]
      · rw [List.getElem?_eq_none (by rw [List.length_set, wipe_length]; omega), if_neg (fun z => hl z.2), List.getElem?_eq_none (by omega)]
    · rw [List.getElem?_set_ne hj, wipe_get]
      by_cases hm : j ∈ vs ∧ j < σ.length
      · rw [if_pos hm, if_pos ⟨List.mem_cons_of_mem _ hm.1, hm.2⟩]
      · rw [if_neg hm, if_neg (fun z => hm ⟨(List.mem_cons.mp z.1).elim (fun q => absurd q.symm hj) id, z.2⟩)]
theorem wipeS_len (s : S) : ∀ vs : List Nat, (wipeS s vs).length = s.length
  | [] => rfl
  | v :: vs => by
    show ((wipeS s vs).set v .un).length = _
    rw [List.length_set, wipeS_len s vs]
theorem wipeS_get {s : S} : ∀ {vs : List Nat} {j : Nat}, (wipeS s vs)[j]? = if j ∈ vs ∧ j < s.length then some .un else s[j]?
  | [], j => by
    rw [if_neg (by simp)]
    rfl
  | v :: vs, j => by
    show ((wipeS s vs).set v .un)[j]? = _
    by_cases hj : v = j
    · subst hj
      by_cases hl : v < s.length
      · rw [List.getElem?_set_self (by rw [wipeS_len]; exact hl), if_pos ⟨List.mem_cons_self, hl⟩]
      · rw [List.getElem?_eq_none (by rw [List.length_set, wipeS_len]; omega), if_neg (fun z => hl z.2), List.getElem?_eq_none (by omega)]
    · rw [List.getElem?_set_ne hj, wipeS_get]
      by_cases hm : j ∈ vs ∧ j < s.length
      · rw [if_pos hm, if_pos ⟨List.mem_cons_of_mem _ hm.1, hm.2⟩]
      · rw [if_neg hm, if_neg (fun z => hm ⟨(List.mem_cons.mp z.1).elim (fun q => absurd q.symm hj) id, z.2⟩)]
theorem backS_len (s0 s : S) : ∀ vs : List Nat, (backS s0 s vs).length = s.length
  | [] => rfl
  | v :: vs => by
    show ((backS s0 s vs).set v (s0.getD v .un)).length = _
    rw [List.length_set, backS_len s0 s vs]
theorem backS_get {s0 s : S} (hl : s0.length = s.length) : ∀ {vs : List Nat} {j : Nat}, (backS s0 s vs)[j]? = if j ∈ vs then s0[j]? else s[j]?
  | [], j => by
    rw [if_neg (by simp)]
    rfl
  | v :: vs, j => by
    show ((backS s0 s vs).set v (s0.getD v .un))[j]? = _
    by_cases hj : v = j
    · subst hj
      rw [if_pos List.mem_cons_self]
      by_cases hv : v < s.length
      · rw [List.getElem?_set_self (by rw [backS_len]; exact hv), List.getElem?_eq_getElem (by omega)]
        rw [List.getD_eq_getElem?_getD, List.getElem?_eq_getElem (by omega)]
        rfl
      · rw [List.getElem?_eq_none (by rw [List.length_set, backS_len]; omega), List.getElem?_eq_none (by omega)]
    · rw [List.getElem?_set_ne hj, backS_get hl]
      by_cases hm : j ∈ vs
      · rw [if_pos hm, if_pos (List.mem_cons_of_mem _ hm)]
      · rw [if_neg hm, if_neg (fun z => hm ((List.mem_cons.mp z).elim (fun q => absurd q.symm hj) id))]
/-- one's own slots forgotten -/
theorem StOk.wipe {K : PySem.W.Frag} {F : NS} {s : S} {σ σ' : L2.St} {H : Hp} {own : List Nat} (k : StOk K F s σ H) (hl : σ'.length = σ.length) (h : ∀ j, j ∉ own → σ'[j]? = σ[j]?) : StOk K F (wipeS s own) σ' H ∧ Fr F (Nn F s σ) H (Nn F (wipeS s own) σ') H :=
  k.sub (by rw [wipeS_len, hl]; exact k.len) fun j x e hx => by
    rw [wipeS_get] at e
    split at e
    · cases e
      exact absurd rfl hx
    · rename_i c
      refine ⟨e, h j fun z => c ⟨z, ?_⟩⟩
      exact get_lt e
/-- .. and found again -/
theorem StOk.back {K : PySem.W.Frag} {F F1 : NS} {s s' : S} {σ : L2.St} {H H' : Hp} {own : List Nat} (k : StOk K F s σ H) (k' : StOk K F1 s' (L2.wipe σ own) H') (f : Fr F (Nn F s σ) H (Nn F1 s' (L2.wipe σ own)) H') (no : own.all (fun i => notOw (s.getD i .un)) = true) :
    StOk K F1 (backS s s' own) σ H' ∧ Nn F1 (backS s s' own) σ = Nn F1 s' (L2.wipe σ own) := by
  have hl : s.length = s'.length := by
    rw [k.len, k'.len, wipe_length]
  have notow : ∀ {j : Nat} {o : Ob}, j ∈ own → s[j]? ≠ some (.ow o) := fun {j o} hj z => by
    have q := List.all_eq_true.mp no j hj
    rw [List.getD_eq_getElem?_getD, z] at q
    exact Bool.noConfusion q
  have wow : ∀ {j : Nat} {o : Ob}, s'[j]? = some (.ow o) → j ∉ own := fun {j o} z hj => by
    obtain ⟨p, e, _⟩ := k'.ow j o z
    rw [wipe_get, if_pos ⟨hj, by rw [← k.len, hl]; exact get_lt z⟩] at e
    cases e
  have own' : ∀ b, Own (backS s s' own) σ b ↔ Own s' (L2.wipe σ own) b := fun b => by
    constructor
    · rintro ⟨j, o, e1, e2⟩
      rw [backS_get hl] at e1
      by_cases hj : j ∈ own
      · rw [if_pos hj] at e1
        exact absurd e1 (notow hj)
      · rw [if_neg hj] at e1
        exact ⟨j, o, e1, by rw [wipe_get, if_neg (fun z => hj z.1)]; exact e2⟩
    · rintro ⟨j, o, e1, e2⟩
      have hj := wow e1
      rw [wipe_get, if_neg (fun z => hj z.1)] at e2
      exact ⟨j, o, by rw [backS_get hl, if_neg hj]; exact e1, e2⟩
  have nn : Nn F1 (backS s s' own) σ = Nn F1 s' (L2.wipe σ own) := by
    funext b
    exact propext (or_congr Iff.rfl (own' b))
  refine ⟨⟨by rw [backS_len, ← hl]; exact k.len, fun j d e => ?_, fun j o e => ?_, fun i j o o' p e e' g g' => ?_, fun b z => k'.ap b ((own' b).mp z), k'.dom, k'.tb⟩, nn⟩
  · rw [nn]
    rw [backS_get hl] at e
    by_cases hj : j ∈ own
    · rw [if_pos hj] at e
      obtain ⟨v, e1, r⟩ := k.sh j d e
      exact ⟨v, e1, Rp.mono f.le _ _ r⟩
    · rw [if_neg hj] at e
      obtain ⟨v, e1, r⟩ := k'.sh j d e
      rw [wipe_get, if_neg (fun z => hj z.1)] at e1
      exact ⟨v, e1, r⟩
  · rw [nn]
    rw [backS_get hl] at e
    by_cases hj : j ∈ own
    · rw [if_pos hj] at e
      exact absurd e (notow hj)
    · rw [if_neg hj] at e
      obtain ⟨p, e1, r⟩ := k'.ow j o e
      rw [wipe_get, if_neg (fun z => hj z.1)] at e1
      exact ⟨p, e1, r⟩
  · rw [backS_get hl] at e e'
    by_cases hi : i ∈ own
    · rw [if_pos hi] at e
      exact absurd e (notow hi)
    · by_cases hj : j ∈ own
      · rw [if_pos hj] at e'
        exact absurd e' (notow hj)
      · rw [if_neg hi] at e
        rw [if_neg hj] at e'
        exact k'.inj i j o o' p e e' (by rw [wipe_get, if_neg (fun z => hi z.1)]; exact g) (by rw [wipe_get, if_neg (fun z => hj z.1)]; exact g')
end
end Hg
set_option Elab.async false
set_option linter.all false
set_option maxRecDepth 100000
set_option maxHeartbeats 400000
/-! List comprehensions. -/
namespace Hg
open PySem PySem.Spec PyProof.Rows L2 RZ RT
abbrev WF : WX := fun _ _ _ _ => False
section
variable {X : Cx} {EC : Nat → Addr} {W : WX}
theorem ownP_snd (N : List Str) (own : List Nat) : (ownP N own).map (·.2) = own := by
  unfold ownP
  rw [List.map_map]
  exact List.map_id own
/-- a comprehension's turn -/
def lcTurn (tg : Tg) (mt : M Bool) (me : M D) (d : D) : M (Option D) := (putT tg d).bind fun _ => mt.bind fun k => if k then me.bind fun x => M.pure (some x) else M.pure none
theorem lcGo_cons {own : List Nat} {turn : D → M (Option D)} {d : D} {ds : List D} {s s' : S} {xs : List D} (h : lcGo own turn (d :: ds) s = .ok xs s') :
    ∃ o s1 r, turn d s = .ok o s1 ∧ lcGo own turn ds (wipeS s1 own) = .ok r s' ∧ xs = optCons o r := by
  obtain ⟨o, s1, e1, h1⟩ := M.bind_ok h
  obtain ⟨_, s2, e2, h2⟩ := M.bind_ok h1
  obtain ⟨r, s3, e3, h3⟩ := M.bind_ok h2
  clear h h1 h2
  cases (show R.ok () (wipeS s1 own) = .ok _ s2 from e2)
  have h3 : R.ok (optCons o r) s3 = .ok xs s' := h3
  cases h3
  exact ⟨o, s1, r, e1, e3, rfl⟩
/-- what stands between two turns -/
structure LcAt (K : PySem.W.Frag) (F : NS) (s1 : S) (σ : L2.St) (H1 : Hp) (own : List Nat) (turn : D → M (Option D)) (ds xs : List D) (s' : S) (Dl : Addr) (i : Nat) (H : Hp) : Prop where
  at_ : ∃ si vs as rest, StOk K (Ad F Dl) si (L2.wipe σ own) H ∧ Fr F (Nn F s1 σ) H1 (Nn (Ad F Dl) si (L2.wipe σ own)) H ∧ H Dl = some (.lst vs) ∧ RpA K (Hid (Nn (Ad F Dl) si (L2.wipe σ own)) H) vs as ∧ vs.length ≤ i ∧
    lcGo own turn (ds.drop i) si = .ok rest s' ∧ as ++ rest = xs
theorem get_drop {α : Type} {l : List α} {i : Nat} {d : α} (h : l[i]? = some d) : l.drop i = d :: l.drop (i + 1) := by
  obtain ⟨hi, e⟩ := List.getElem?_eq_some_iff.mp h
  rw [List.drop_eq_getElem_cons hi, e]
/-- an iterator over the data, while what is kept for itself stays -/
def JOkF (K : PySem.W.Frag) (F N : NS) (H : Hp) (ds : List D) (J : It) : Prop := ∀ (N1 : NS) (H1 : Hp), Dm N1 H1 → Le (Hid N H) (Hid N1 H1) → (∀ b, F b → H1 b = H b) → ∀ i : Nat,
  (∀ d, ds[i]? = some d → J.go i H1 ∧ ∀ x H2, J.yld i H1 x H2 → (H2 = H1 ∨ ∃ p o, H1 p = none ∧ H2 = upd H1 p o) ∧ Rp K (Hid N1 H2) x d) ∧ (ds[i]? = none → J.stop i H1)
theorem T_lc1 {own : List Nat} {N : List Str} {tg : Tg} {mt : M Bool} {me : M D} (hsub : ∀ j, j ∈ tgIx tg → j ∈ own) {σ : L2.St} {H : Hp} {Q : VK} {F : NS} {s s1 : S} {ds : List D} {J : It} {H1 : Hp}
    (hd : Wp X.K EC W F s σ H (if own.all (fun i => notOw (s1.getD i .un)) && decide (ds.length < sizeLine) then (match lcGo own (lcTurn tg mt me) ds (wipeS s1 own) with
    | .bad => R.bad
    | .err _ _ => .bad
    | .ok xs s' => .ok (.ow (.lst xs)) (backS s1 s' own)) else .bad) fun r s' => ∀ v H', AftS X.K F s σ H r s' v H' → Q v H') (k1 : StOk X.K F s1 σ H1) (f1 : Fr F (Nn F s σ) H (Nn F s1 σ) H1) (hJ : JOkF X.K F (Nn F s1 σ) H1 ds J) :
    tLc (fun _ _ RR => RR J H1) (tPut X.K tg) (tBo X.K EC WF mt) (tD X.K EC WF me) ((ownP N own).map (·.2)) σ H Q := by
  rw [ownP_snd]
  intro Dl hDl
  by_cases cond : (own.all (fun i => notOw (s1.getD i .un)) && decide (ds.length < sizeLine)) = true
  case neg => rw [if_neg cond] at hd; exact hd.elim
  rw [if_pos cond] at hd
  obtain ⟨no, hz⟩ := Bool.and_eq_true_iff.mp cond
  have hz := of_decide_eq_true hz
  cases q : lcGo own (lcTurn tg mt me) ds (wipeS s1 own) with
  | bad => rw [q] at hd; exact hd.elim
  | err u z => rw [q] at hd; exact hd.elim
  | ok xs s' =>
    rw [q] at hd
    have hd : ∀ v H', AftS X.K F s σ H (.ow (.lst xs)) (backS s1 s' own) v H' → Q v H' := hd
    -- the start
    obtain ⟨kw, fw⟩ := k1.wipe (own := own) (σ' := L2.wipe σ own) (wipe_length σ own) (fun j hj => by rw [wipe_get, if_neg (fun z => hj z.1)])
    obtain ⟨k0, f0⟩ := kw.newOw (o := .lst []) .lst hDl
    have f00 : Fr F (Nn F s1 σ) H1 (Nn (Ad F Dl) (wipeS s1 own) (L2.wipe σ own)) (upd H1 Dl (.lst [])) := fw.trans f0
    refine ⟨fun i m H => m = ds.length - i ∧ i ≤ ds.length ∧ LcAt X.K F s1 σ H1 own (lcTurn tg mt me) ds xs s' Dl i H, ⟨ds.length, by simp, Nat.zero_le _, ⟨_, [], [], xs, k0, f00, upd_same, .nil, Nat.le_refl _, by rw [List.drop_zero]; exact q, rfl⟩⟩, ?_⟩
    rintro i m H2 ⟨rfl, hle, ⟨si, vs, as, rest, ki, fi, hD, ra, hvs, go, eq⟩⟩
    obtain ⟨j1, j2⟩ := hJ _ H2 (fun _ => ki.nn) fi.le fi.keep i
    cases hget : ds[i]? with
    | none =>
      have hi' : ds.length ≤ i := List.getElem?_eq_none_iff.mp hget
      refine .inl ⟨j2 hget, hd _ _ ?_⟩
      rw [List.drop_eq_nil_of_le hi'] at go
      cases (show R.ok [] si = .ok rest s' from go)
      rw [List.append_nil] at eq
      subst eq
      obtain ⟨kb, nb⟩ := k1.back (own := own) ki fi no
      refine ⟨Dl, rfl, kb, ?_, fun z => ?_, ?_⟩
      · rw [nb]
        exact f1.trans fi
      · obtain ⟨u, e, _⟩ := k1.dom Dl z
        rw [hDl] at e
        cases e
      · rw [nb]
        exact ⟨vs, hD, ra⟩
    | some d =>
      obtain ⟨jg, jy⟩ := j1 d hget
      have hlt : i < ds.length := (List.getElem?_eq_some_iff.mp hget).1
      rw [get_drop hget] at go
      obtain ⟨o, sb, r, e1, e2, e3⟩ := lcGo_cons go
      obtain ⟨_, sa, p1, e1⟩ := M.bind_ok (show ((putT tg d).bind fun _ => mt.bind fun k => if k then me.bind fun x => M.pure (some x) else M.pure none) si = .ok o sb from e1)
      obtain ⟨kk, sc, p2, e1⟩ := M.bind_ok e1
      refine .inr ⟨jg, LcAt X.K F s1 σ H1 own (lcTurn tg mt me) ds xs s' Dl (i + 1), fun H' z => ⟨ds.length - (i + 1), by omega, rfl, hlt, z⟩, fun x H3 hy => ?_⟩
      obtain ⟨hx, rx⟩ := jy x H3 hy
      -- the state behind the step
      have kf : StOk X.K (Ad F Dl) si (L2.wipe σ own) H3 ∧ Fr (Ad F Dl) (Nn (Ad F Dl) si (L2.wipe σ own)) H2 (Nn (Ad F Dl) si (L2.wipe σ own)) H3 := by
        rcases hx with rfl | ⟨p, u, hp, rfl⟩
        · exact ⟨ki, Fr.refl⟩
        · exact ⟨ki.new hp, ki.frNew hp⟩
      obtain ⟨k3, f3⟩ := kf
      refine ⟨Ad F Dl, si, d, k3, rx, sa, p1, fun σ4 a4 => ⟨?_, ?_⟩⟩
      · apply List.ext_getElem?
        intro j
        rw [wipe_get, wipe_get, a4.len, wipe_length]
        by_cases hj : j ∈ own ∧ j < σ.length
        · rw [if_pos hj, if_pos hj]
        · rw [if_neg hj, if_neg hj]
          by_cases ho : j ∈ own
          · have hl : σ.length ≤ j := by
              rcases Nat.lt_or_ge j σ.length with z | z
              · exact absurd ⟨ho, z⟩ hj
              · exact z
            rw [List.getElem?_eq_none hl, List.getElem?_eq_none (by rw [a4.len, wipe_length]; exact hl)]
          · rw [a4.out j (fun z => ho (hsub j z)), wipe_get, if_neg hj]
      · refine ⟨Ad F Dl, sa, a4.ok, ?_⟩
        rw [p2]
        intro H5 a5
        have f5 : Fr (Ad F Dl) (Nn (Ad F Dl) si (L2.wipe σ own)) H2 (Nn (Ad F Dl) sc σ4) H5 := (f3.trans a4.fr).trans a5.fr
        have out4 : ∀ j, j ∉ own → (L2.wipe σ own)[j]? = σ4[j]? := fun j hj => (a4.out j (fun z => hj (hsub j z))).symm
        -- the turn's end
        have fin : ∀ {s6 : S} {H6 : Hp} {vs6 : List V} {as6 : List D}, StOk X.K (Ad F Dl) s6 σ4 H6 → Fr (Ad F Dl) (Nn (Ad F Dl) si (L2.wipe σ own)) H2 (Nn (Ad F Dl) s6 σ4) H6 → ∀ (vs7 : List V) (as7 : List D),
            (∀ H7, (∀ b, b ≠ Dl → H7 b = H6 b) → H7 Dl = some (.lst vs7) → RpA X.K (Hid (Nn (Ad F Dl) s6 σ4) H7) vs7 as7) → vs7.length ≤ i + 1 → lcGo own (lcTurn tg mt me) (ds.drop (i + 1)) (wipeS s6 own) = .ok r s' → as7 ++ r = xs →
            LcAt X.K F s1 σ H1 own (lcTurn tg mt me) ds xs s' Dl (i + 1) (upd H6 Dl (.lst vs7)) := fun {s6 H6 vs6 as6} k6 f6 vs7 as7 hr hl7 hgo he7 => by
          have nD : Nn (Ad F Dl) s6 σ4 Dl := .inl (.inr rfl)
          have l7 : Le (Hid (Nn (Ad F Dl) s6 σ4) H6) (Hid (Nn (Ad F Dl) s6 σ4) (upd H6 Dl (.lst vs7))) := fun b u _ z => by
            obtain ⟨a, z⟩ := hid_iff.mp z
            have nb : b ≠ Dl := fun y => a (y ▸ nD)
            exact hid_iff.mpr ⟨a, by rw [upd_ne nb]; exact z⟩
          have k7 : StOk X.K (Ad F Dl) s6 σ4 (upd H6 Dl (.lst vs7)) := by
            refine ⟨k6.len, fun j d' e => ?_, fun j o' e => ?_, k6.inj, k6.ap, fun b z => ?_, ?_⟩
            · obtain ⟨v, q1, q2⟩ := k6.sh j d' e
              exact ⟨v, q1, Rp.mono l7 _ _ q2⟩
            · obtain ⟨p, q1, q2⟩ := k6.ow j o' e
              exact ⟨p, q1, q2.mono (upd_ne fun y => k6.ap p ⟨j, o', e, q1⟩ (.inr y)) l7⟩
            · by_cases hb : b = Dl
              · rw [hb]
                exact ⟨_, upd_same, .lst⟩
              · rw [upd_ne hb]
                exact k6.dom b z
            · obtain ⟨u, e, n⟩ := k6.dom Dl (.inr rfl)
              exact k6.tb.put e n
          obtain ⟨k8, f8⟩ := k7.wipe (own := own) (σ' := L2.wipe σ own) (by rw [a4.len]) out4
          refine ⟨_, vs7, as7, r, k8, ?_, upd_same, RpA.mono f8.le _ _ (hr _ (fun b nb => upd_ne nb) upd_same), hl7, hgo, he7⟩
          refine ⟨fun b z => ?_, fun b u n tb z => ?_⟩
          · have nb : b ≠ Dl := fun y => by
              obtain ⟨u, e, _⟩ := k1.dom b z
              rw [y, hDl] at e
              cases e
            rw [upd_ne nb]
            exact (f6.keep b (.inl z)).trans (fi.keep b z)
          · obtain ⟨z1, n1⟩ := fi.imm b u n tb z
            obtain ⟨z2, n2⟩ := f6.imm b u n1 tb z1
            have nb : b ≠ Dl := fun y => n2 (y ▸ nD)
            exact f8.imm b u n2 tb (by rw [upd_ne nb]; exact z2)
        have hD5 : H5 Dl = some (.lst vs) := (f5.keep Dl (.inr rfl)).trans hD
        cases kk with
        | true =>
          obtain ⟨y, sy, p3, e1⟩ := M.bind_ok (show (me.bind fun x => M.pure (some x)) sc = .ok o sb from e1)
          cases (show R.ok (some y) sy = .ok o sb from e1)
          refine ⟨Ad F Dl, sc, a5.ok, ?_⟩
          rw [p3]
          intro yv H6 a6
          have f6 := f5.trans a6.fr
          refine ⟨vs, (f6.keep Dl (.inr rfl)).trans hD, Nat.lt_of_le_of_lt hvs (Nat.lt_trans hlt hz), ?_⟩
          refine fin (vs6 := vs) (as6 := as) a6.ok f6 (vs ++ [yv]) (as ++ [y]) (fun H7 ne _ => ?_) (by rw [List.length_append, List.length_singleton]; omega) e2 (by rw [List.append_assoc, ← eq, e3] <;> rfl)
          have l : Le (Hid (Nn (Ad F Dl) sb σ4) H6) (Hid (Nn (Ad F Dl) sb σ4) H7) := fun b u _ z => by
            obtain ⟨a, z⟩ := hid_iff.mp z
            exact hid_iff.mpr ⟨a, by rw [ne b fun y => a (y ▸ .inl (.inr rfl))]; exact z⟩
          exact (RpA.mono (f6.le.trans l) _ _ ra).append (.cons (Rp.mono l _ _ a6.rp) .nil)
        | false =>
          cases (show R.ok none sc = .ok o sb from e1)
          have z := fin (vs6 := vs) (as6 := as) a5.ok f5 vs as (fun H7 ne _ => ?_) (Nat.le_succ_of_le hvs) e2 (by rw [← eq, e3] <;> rfl)
          · have e : upd H5 Dl (.lst vs) = H5 := by
              funext b
              by_cases hb : b = Dl
              · rw [hb, upd_same, hD5]
              · rw [upd_ne hb]
            rw [e] at z
            exact z
          · have l : Le (Hid (Nn (Ad F Dl) sb σ4) H5) (Hid (Nn (Ad F Dl) sb σ4) H7) := fun b u _ z => by
              obtain ⟨a, z⟩ := hid_iff.mp z
              exact hid_iff.mpr ⟨a, by rw [ne b fun y => a (y ▸ .inl (.inr rfl))]; exact z⟩
            exact RpA.mono (f5.le.trans l) _ _ ra
theorem T_lc {own : List Nat} {N : List Str} {tg : Tg} {mt : M Bool} {me : M D} {src : M (List D)} (hsub : ∀ j, j ∈ tgIx tg → j ∈ own) {σ : L2.St} {H : Hp} {Q : VK} (w : tE X.K EC W (lcM own (lcTurn tg mt me) src) σ H Q) :
    tLc (tSr X.K EC W src) (tPut X.K tg) (tBo X.K EC WF mt) (tD X.K EC WF me) ((ownP N own).map (·.2)) σ H Q := by
  obtain ⟨F, s, k, w⟩ := w
  exact ⟨F, s, k, w.bind.mono fun ds s1 hd J H1 k1 f1 hJ => T_lc1 hsub hd k1 f1 fun N1 H2 a b _ => hJ N1 H2 a b⟩
theorem E_lc {elt t it : Expr} {ifs : List Expr} {scope : Scope} {own : List Nat} {pos : Pos} {tg : Tg} {mt : M Bool} {me : M D} {src : M (List D)} (hc : X.calm = true) (hN : X.N.Nodup) (hi : PI X t it (tSr X.K EC W src)) (ok : BlkOk X.N X.env.scope scope (ownP X.N own))
    (hg : ∀ (s : Shared) (H : Hp) (C : Addr) (cl : List (Str × Addr)) (fp : List Addr), PG (X.blk s H scope (compEnvC scope cl C X.env) fp) t (tPut X.K tg))
    (ht : ∀ (s : Shared) (H : Hp) (C : Addr) (cl : List (Str × Addr)) (fp : List Addr), PTs (X.blk s H scope (compEnvC scope cl C X.env) fp) ifs (tBo X.K EC WF mt))
    (he : ∀ (s : Shared) (H : Hp) (C : Addr) (cl : List (Str × Addr)) (fp : List Addr), PE (X.blk s H scope (compEnvC scope cl C X.env) fp) elt (tD X.K EC WF me))
    (hs : ∀ x, foldedSetIterable it X.env x = pure x) (hsub : ∀ j, j ∈ tgIx tg → j ∈ own) :
    PE X (.ListComp elt [⟨t, it, ifs, 0⟩] scope pos) (tE X.K EC W (lcM own (lcTurn tg mt me) src)) := peW (pe_lc hc hN hi ok hg ht he hs) fun σ H Q w => T_lc hsub w

/-! ### a walk over a list that the def holds -/
theorem own_lend {K : PySem.W.Frag} {F : NS} {s : S} {σ : L2.St} {H : Hp} (k : StOk K F s σ H) {i : Nat} {o : Ob} {p : Addr} (e : s[i]? = some (.ow o)) (ep : σ[i]? = some (some (.ref p))) :
    StOk K (Ad F p) (s.set i .un) σ H ∧ Nn (Ad F p) (s.set i .un) σ = Nn F s σ := by
  have ne : ∀ (j : Nat) (x : Sl), x ≠ .un → (s.set i .un)[j]? = some x → j ≠ i ∧ s[j]? = some x := fun j x hx z => by
    by_cases c : i = j
    · subst c
      rw [List.getElem?_set_self (get_lt e)] at z
      cases z
      exact absurd rfl hx
    · rw [List.getElem?_set_ne c] at z
      exact ⟨fun y => c y.symm, z⟩
  have neo : ∀ (j : Nat) (o : Ob), (s.set i .un)[j]? = some (.ow o) → j ≠ i ∧ s[j]? = some (.ow o) := fun j o z => ne j (.ow o) (fun y => nomatch y) z
  have nes : ∀ (j : Nat) (d : D), (s.set i .un)[j]? = some (.sh d) → j ≠ i ∧ s[j]? = some (.sh d) := fun j d z => ne j (.sh d) (fun y => nomatch y) z
  have en : Nn (Ad F p) (s.set i .un) σ = Nn F s σ := by
    funext b
    refine propext ⟨fun z => ?_, fun z => ?_⟩
    · rcases z with (z | z) | ⟨j, o, z1, z2⟩
      · exact .inl z
      · exact .inr ⟨i, _, e, by rw [z]; exact ep⟩
      · exact .inr ⟨j, o, (neo j o z1).2, z2⟩
    · rcases z with z | ⟨j, o, z1, z2⟩
      · exact .inl (.inl z)
      · by_cases c : j = i
        · subst c
          rw [ep] at z2
          cases z2
          exact .inl (.inr rfl)
        · exact .inr ⟨j, o, by rw [List.getElem?_set_ne fun y => c y.symm]; exact z1, z2⟩
  refine ⟨⟨by rw [List.length_set]; exact k.len, fun j d z => ?_, fun j o z => ?_, fun j j' o o' q z z' y y' => ?_, fun b z y => ?_, fun b z => ?_, k.tb⟩, en⟩
  · rw [en]
    exact k.sh j d (nes j d z).2
  · rw [en]
    exact k.ow j o (neo j o z).2
  · exact k.inj j j' o o' q (neo j o z).2 (neo j' o' z').2 y y'
  · obtain ⟨j, o, z1, z2⟩ := z
    obtain ⟨c, z1⟩ := neo j o z1
    rcases y with y | y
    · exact k.ap b ⟨j, o, z1, z2⟩ y
    · subst y
      exact c (k.inj j i o _ b z1 e z2 ep)
  · rcases z with z | z
    · exact k.dom b z
    · rw [z]
      exact k.own' ⟨i, _, e, ep⟩
theorem own_back {K : PySem.W.Frag} {G : NS} {s : S} {σ : L2.St} {H : Hp} {i : Nat} {ob : Ob} {p : Addr} (k : StOk K (Ad G p) s σ H) (hp : ¬ G p) (e : s[i]? = some .un) (ep : σ[i]? = some (some (.ref p))) (ha : OwAt K (Nn (Ad G p) s σ) H p ob) :
    StOk K G (s.set i (.ow ob)) σ H ∧ Nn G (s.set i (.ow ob)) σ = Nn (Ad G p) s σ := by
  have ne : ∀ (j : Nat) (x : Sl), j ≠ i → (s.set i (.ow ob))[j]? = some x → s[j]? = some x := fun j x hx z => by
    rwa [List.getElem?_set_ne fun y => hx y.symm] at z
  have at_ : (s.set i (.ow ob))[i]? = some (.ow ob) := List.getElem?_set_self (get_lt e)
  have en : Nn G (s.set i (.ow ob)) σ = Nn (Ad G p) s σ := by
    funext b
    refine propext ⟨fun z => ?_, fun z => ?_⟩
    · rcases z with z | ⟨j, o, z1, z2⟩
      · exact .inl (.inl z)
      · by_cases c : j = i
        · subst c
          rw [ep] at z2
          cases z2
          exact .inl (.inr rfl)
        · exact .inr ⟨j, o, ne j _ c z1, z2⟩
    · rcases z with (z | z) | ⟨j, o, z1, z2⟩
      · exact .inl z
      · exact .inr ⟨i, _, at_, by rw [z]; exact ep⟩
      · by_cases c : j = i
        · subst c
          rw [e] at z1
          cases z1
        · exact .inr ⟨j, o, by rw [List.getElem?_set_ne fun y => c y.symm]; exact z1, z2⟩
  have own2 : ∀ (j : Nat) (o : Ob) (b : Addr), s[j]? = some (.ow o) → σ[j]? = some (some (.ref b)) → b ≠ p := fun j o b z1 z2 y => k.ap b ⟨j, o, z1, z2⟩ (.inr y)
  refine ⟨⟨by rw [List.length_set]; exact k.len, fun j d z => ?_, fun j o z => ?_, fun j j' o o' q z z' y y' => ?_, fun b z y => ?_, fun b z => k.dom b (.inl z), k.tb⟩, en⟩
  · rw [en]
    by_cases c : j = i
    · subst c
      rw [at_] at z
      cases z
    · exact k.sh j d (ne j _ c z)
  · rw [en]
    by_cases c : j = i
    · subst c
      rw [at_] at z
      cases z
      exact ⟨p, ep, ha⟩
    · exact k.ow j o (ne j _ c z)
  · by_cases c : j = i
    · by_cases c' : j' = i
      · rw [c, c']
      · subst c
        rw [ep] at y
        cases y
        exact absurd rfl (own2 j' o' _ (ne j' _ c' z') y')
    · by_cases c' : j' = i
      · subst c'
        rw [ep] at y'
        cases y'
        exact absurd rfl (own2 j o _ (ne j _ c z) y)
      · exact k.inj j j' o o' q (ne j _ c z) (ne j' _ c' z') y y'
  · obtain ⟨j, o, z1, z2⟩ := z
    by_cases c : j = i
    · subst c
      rw [ep] at z2
      cases z2
      exact hp y
    · exact k.ap b ⟨j, o, ne j _ c z1, z2⟩ (.inl y)
theorem ad_comm (F : NS) (p q : Addr) : Ad (Ad F p) q = Ad (Ad F q) p := by
  funext b
  exact propext ⟨fun z => z.elim (fun z => z.elim (fun z => .inl (.inl z)) .inr) fun z => .inl (.inr z), fun z => z.elim (fun z => z.elim (fun z => .inl (.inl z)) .inr) fun z => .inl (.inr z)⟩
/-- what is lent, walked over, and had back -/
theorem lcl_core {own : List Nat} {N : List Str} {tg : Tg} {mt : M Bool} {me : M D} {i : Nat} {o : Ob} {ds : List D} (hsub : ∀ j, j ∈ tgIx tg → j ∈ own) {σ : L2.St} {H : Hp} {Q : VK} {F : NS} {s : S} {p : Addr} {J : It} (k : StOk X.K F s σ H) (e : s[i]? = some (.ow o)) (ep : σ[i]? = some (some (.ref p))) (ha : OwAt X.K (Nn F s σ) H p o)
    (w : Wp X.K EC W F s σ H (lcLo own (lcTurn tg mt me) i o ds s) fun r s' => ∀ v H', AftS X.K F s σ H r s' v H' → Q v H') (hJ : JOkF X.K (Ad F p) (Nn F s σ) H ds J) :
    tLc (fun _ _ RR => RR J H) (tPut X.K tg) (tBo X.K EC WF mt) (tD X.K EC WF me) ((ownP N own).map (·.2)) σ H Q := by
  obtain ⟨k2, en⟩ := own_lend k e ep
  have hFp : ¬ F p := k.ap p ⟨i, _, e, ep⟩
  have ha2 : OwAt X.K (Nn (Ad F p) (s.set i .un) σ) H p o := by rw [en]; exact ha
  refine T_lc1 (W := W) (F := Ad F p) (s := s.set i .un) (s1 := s.set i .un) (ds := ds) hsub (Q := Q) ?_ k2 Fr.refl (by rw [en]; exact hJ)
  unfold lcLo at w
  cases q : lcM own (lcTurn tg mt me) (M.pure ds) (s.set i .un) with
  | bad => rw [q] at w; exact w.elim
  | err u z => rw [q] at w; exact w.elim
  | ok r s' =>
    rw [q] at w
    have q2 : (if own.all (fun i_1 => notOw ((s.set i .un).getD i_1 .un)) && decide (ds.length < sizeLine) then (match lcGo own (lcTurn tg mt me) ds (wipeS (s.set i .un) own) with
      | .bad => R.bad
      | .err _ _ => .bad
      | .ok xs s' => .ok (.ow (.lst xs)) (backS (s.set i .un) s' own)) else .bad) = R.ok r s' := q
    rw [q2]
    have w : Wp X.K EC W F s σ H (match s'[i]? with
      | some .un => R.ok r (s'.set i (.ow o))
      | _ => .bad) _ := w
    cases z : s'[i]? with
    | none => rw [z] at w; exact w.elim
    | some x =>
      rw [z] at w
      cases x with
      | sh d => exact w.elim
      | ow o => exact w.elim
      | un =>
        intro v H' a
        have w : ∀ v H', AftS X.K F s σ H r (s'.set i (.ow o)) v H' → Q v H' := w
        refine w v H' ?_
        cases r with
        | un => exact a
        | sh d =>
          have a : AftD X.K (Ad F p) (s.set i .un) σ H d s' v H' := a
          have ha3 := ha2.mono (a.fr.keep p (.inr rfl)) a.fr.le
          obtain ⟨k3, en3⟩ := own_back a.ok hFp z ep ha3
          refine ⟨k3, ?_, ?_⟩
          · rw [en3, ← en]
            exact ⟨fun b y => a.fr.keep b (.inl y), a.fr.imm⟩
          · rw [en3]
            exact a.rp
        | ow o' =>
          obtain ⟨u, rfl, a2⟩ := (show ∃ u, v = .ref u ∧ AftW X.K (Ad F p) (s.set i .un) σ H o' s' u H' from a)
          have ha3 := ha2.mono (a2.fr.keep p (.inr rfl)) a2.fr.le
          have ok3 := a2.ok
          rw [ad_comm] at ok3 ha3
          obtain ⟨k3, en3⟩ := own_back ok3 (fun y => y.elim hFp fun y => a2.nf (.inr y.symm)) z ep ha3
          rw [ad_comm] at en3
          refine ⟨u, rfl, k3, ?_, fun y => a2.nf (.inl y), ?_⟩
          · rw [en3, ← en]
            exact ⟨fun b y => a2.fr.keep b (.inl y), a2.fr.imm⟩
          · rw [en3]
            exact a2.at_
theorem E_lcl {elt t : Expr} {n : Str} {p1 : Pos} {ifs : List Expr} {scope : Scope} {own : List Nat} {pos : Pos} {tg : Tg} {mt : M Bool} {me : M D} {i : Nat} (hc : X.calm = true) (hN : X.N.Nodup) (hv : PE X (.Name n p1) (tVar i)) (ok : BlkOk X.N X.env.scope scope (ownP X.N own))
    (hg : ∀ (s : Shared) (H : Hp) (C : Addr) (cl : List (Str × Addr)) (fp : List Addr), PG (X.blk s H scope (compEnvC scope cl C X.env) fp) t (tPut X.K tg))
    (ht : ∀ (s : Shared) (H : Hp) (C : Addr) (cl : List (Str × Addr)) (fp : List Addr), PTs (X.blk s H scope (compEnvC scope cl C X.env) fp) ifs (tBo X.K EC WF mt))
    (he : ∀ (s : Shared) (H : Hp) (C : Addr) (cl : List (Str × Addr)) (fp : List Addr), PE (X.blk s H scope (compEnvC scope cl C X.env) fp) elt (tD X.K EC WF me))
    (hs : ∀ x, foldedSetIterable (.Name n p1) X.env x = pure x) (hsub : ∀ j, j ∈ tgIx tg → j ∈ own) :
    PE X (.ListComp elt [⟨t, .Name n p1, ifs, 0⟩] scope pos) (tE X.K EC W (lcL own (lcTurn tg mt me) i)) := peW (pe_lc hc hN (piOr (pi_list hv) (pi_kD hv)) ok hg ht he hs) fun σ H Q ⟨F, s, k, w⟩ => by
  unfold lcL at w
  split at w
  · rename_i ds e
    obtain ⟨p, ep, ha⟩ := k.ow i _ e
    obtain ⟨vs, hp, rv⟩ := id ha
    refine .inl ⟨.ref p, ep, p, rfl, ⟨vs, SqL.of hp⟩, ?_⟩
    refine lcl_core hsub k e ep ha w fun N1 H1 _ l kp j => ?_
    have h1 : SqL X.K H1 p vs := SqL.of ((kp p (.inr rfl)).trans hp)
    refine ⟨fun d e => ?_, fun e => ⟨vs, h1, rv.none_of e⟩⟩
    obtain ⟨v, e1, r1⟩ := rv.get e
    refine ⟨⟨vs, v, h1, e1⟩, fun x H2 y => ?_⟩
    obtain ⟨rfl, y⟩ := y
    have := (y vs h1).symm.trans e1
    cases this
    exact ⟨.inl rfl, Rp.mono l _ _ r1⟩
  · rename_i kvs e
    obtain ⟨p, ep, ha⟩ := k.ow i _ e
    split at w
    · rename_i m hm
      have hd : Rd_ X.K (Nn F s σ) H (.ref p) (.dict kvs) := ha.rd
      obtain ⟨p', o, xs, pe, hp, dd, r⟩ := hd.dct hm
      cases pe
      refine .inr ⟨.ref p, ep, p, o, xs, rfl, hp, dd, ?_⟩
      refine lcl_core hsub k e ep ha w fun N1 H1 _ l kp i => ?_
      have hp1 : H1 p = some (ExO p o) := (kp p (.inr rfl)).trans hp
      refine ⟨fun d e => ?_, fun e => ⟨hp1, by rw [r.len]; simpa using List.getElem?_eq_none_iff.mp e⟩⟩
      rw [List.getElem?_map] at e
      obtain ⟨⟨k, w'⟩, e1, rfl⟩ := Option.map_eq_some_iff.mp e
      obtain ⟨b, u, v, h1, h2, h3, h4⟩ := r.get e1
      refine ⟨⟨hp1, (List.getElem?_eq_some_iff.mp h1).1⟩, fun x H2 y => ?_⟩
      obtain ⟨rfl, k', b', u', y1, rfl⟩ := y
      rw [h1] at y1
      cases y1
      exact ⟨.inl rfl, Rp.keyT (l.sqT h2)⟩
    · exact w.elim
  · exact w.elim
end
end Hg
set_option Elab.async false
set_option linter.all false
set_option maxRecDepth 100000
set_option maxHeartbeats 400000
/-! What changes an owned list. -/
namespace Hg
open PySem PySem.Spec PyProof.Rows L2 RZ RT
section
variable {K : PySem.W.Frag} {F : NS} {s s1 s' : S} {σ : L2.St} {H H1 H' : Hp}
theorem own_set {i : Nat} {o u : Ob} (e : s[i]? = some (.ow o)) (b : Addr) : Own (s.set i (.ow u)) σ b ↔ Own s σ b := by
  have hi := get_lt e
  constructor
  · rintro ⟨j, w, e1, e2⟩
    by_cases hj : j = i
    · subst hj
      exact ⟨j, o, e, e2⟩
    · rw [List.getElem?_set_ne (Ne.symm hj)] at e1
      exact ⟨j, w, e1, e2⟩
  · rintro ⟨j, w, e1, e2⟩
    by_cases hj : j = i
    · subst hj
      exact ⟨j, u, List.getElem?_set_self hi, e2⟩
    · exact ⟨j, w, by rw [List.getElem?_set_ne (Ne.symm hj)]; exact e1, e2⟩
theorem nn_set {i : Nat} {o u : Ob} (e : s[i]? = some (.ow o)) : Nn F (s.set i (.ow u)) σ = Nn F s σ := by
  funext b
  exact propext (or_congr Iff.rfl (own_set e b))
/-- an owned slot's object rewritten -/
theorem StOk.reput (k : StOk K F s σ H) {i : Nat} {o u : Ob} {p : Addr} {h : HO} (e : s[i]? = some (.ow o)) (ep : σ[i]? = some (some (.ref p))) (hq : OwAt K (Nn F s σ) (upd H p h) p u) :
    StOk K F (s.set i (.ow u)) σ (upd H p h) ∧ Fr F (Nn F s σ) H (Nn F (s.set i (.ow u)) σ) (upd H p h) := by
  have hi := get_lt e
  have op : Own s σ p := ⟨i, o, e, ep⟩
  have nn : Nn F (s.set i (.ow u)) σ = Nn F s σ := nn_set e
  have f : Fr F (Nn F s σ) H (Nn F s σ) (upd H p h) := by
    refine ⟨fun b hb => upd_ne fun z => k.ap p op (z ▸ hb), fun b w n _ z => ⟨?_, n⟩⟩
    rw [upd_ne fun (y : b = p) => n (.inr (y ▸ op))]
    exact z
  refine ⟨⟨by rw [List.length_set]; exact k.len, fun j d z => ?_, fun j w z => ?_, fun a b w w' q z z' y y' => ?_, fun b z => k.ap b ((own_set e b).mp z), fun b z => ?_, ?_⟩, by rw [nn]; exact f⟩
  · rw [nn]
    by_cases hj : j = i
    · subst hj
      rw [List.getElem?_set_self hi] at z
      cases z
    · rw [List.getElem?_set_ne (Ne.symm hj)] at z
      obtain ⟨v, e1, r⟩ := k.sh j d z
      exact ⟨v, e1, Rp.mono f.le _ _ r⟩
  · rw [nn]
    by_cases hj : j = i
    · subst hj
      rw [List.getElem?_set_self hi] at z
      cases z
      exact ⟨p, ep, hq⟩
    · rw [List.getElem?_set_ne (Ne.symm hj)] at z
      obtain ⟨q, e1, r⟩ := k.ow j w z
      exact ⟨q, e1, r.mono (upd_ne fun y => hj (k.inj j i w o p z e (y ▸ e1) ep)) f.le⟩
  · have back : ∀ {j : Nat} {w : Ob}, (s.set i (.ow u))[j]? = some (.ow w) → ∃ w', s[j]? = some (.ow w') := fun {j w} z => by
      by_cases hj : j = i
      · subst hj
        exact ⟨o, e⟩
      · rw [List.getElem?_set_ne (Ne.symm hj)] at z
        exact ⟨w, z⟩
    obtain ⟨_, q1⟩ := back z
    obtain ⟨_, q2⟩ := back z'
    exact k.inj a b _ _ q q1 q2 y y'
  · by_cases hb : b = p
    · rw [hb]
      obtain ⟨w, e1, n⟩ := hq.there'
      exact ⟨w, e1, n⟩
    · rw [upd_ne hb]
      exact k.dom b z
  · obtain ⟨w, e1, n⟩ := k.own' op
    exact k.tb.put e1 n
theorem Wp.ownL {α : Type} {EC : Nat → Addr} {W : WX} {i : Nat} {f : List D → M α} {Φ : α → S → Prop} (w : Wp K EC W F s σ H (((ownL i).bind f) s1) Φ) : ∃ xs, s1[i]? = some (.ow (.lst xs)) ∧ Hg.ownL i s1 = .ok xs s1 ∧ Wp K EC W F s σ H (f xs s1) Φ := by
  have w := w.bind
  unfold Hg.ownL at w ⊢
  cases q : s1[i]? with
  | none => rw [q] at w; exact w.elim
  | some z =>
    rw [q] at w
    cases z with
    | un => exact w.elim
    | sh d => exact w.elim
    | ow o =>
      cases o with
      | dic kvs => exact w.elim
      | lst xs => exact ⟨xs, rfl, rfl, w⟩
/-- a list's new content -/
theorem StOk.lset (k : StOk K F s σ H) {i : Nat} {xs ys : List D} {p : Addr} {vs : List V} (e : s[i]? = some (.ow (.lst xs))) (ep : σ[i]? = some (some (.ref p))) (r : RpA K (Hid (Nn F s σ) H) vs ys) :
    StOk K F (s.set i (.ow (.lst ys))) σ (upd H p (.lst vs)) ∧ Fr F (Nn F s σ) H (Nn F (s.set i (.ow (.lst ys))) σ) (upd H p (.lst vs)) := by
  have op : Own s σ p := ⟨i, _, e, ep⟩
  refine k.reput e ep ⟨vs, upd_same, RpA.mono (fun b u _ z => ?_) _ _ r⟩
  obtain ⟨a, z⟩ := hid_iff.mp z
  exact hid_iff.mpr ⟨a, by rw [upd_ne fun (y : b = p) => a (.inr (y ▸ op))]; exact z⟩
end
section
variable {X : Cx} {EC : Nat → Addr} {W : WX} {C : Cal} {e a b c : Expr} {m ma mb : M Sl} {pos ap cp p1 : Pos} {n : Str} {i : Nat}
theorem few_one {env : Env} (h : noStar a = true) : ((backTo cp (starEach [a] env)).all (fun x => !x.1) && (backToKw cp (keywordEach [] env)).all (fun x => x.1.isSome)
      && decide (([a] : List Expr).length + ([] : List Keyword).length + (if ([] : List Keyword).isEmpty then 0 else 1) < 30)) = true := by
  rw [star_cons h]
  rfl
/-- a method of an owned list with one argument -/
theorem E_met {id : String} {mn : Str} {r : V → List V → Hp → VK → Prop} {g : D → List D → M Sl} (slot : Slot "list" mn id) (hty : typeOf (.builtin id) = pure (.type "method_descriptor")) (hm : MtR X id r) (hv : PE X (.Name n p1) (tVar i)) (ha : PE X a (tE X.K EC W ma)) (na : noStar a = true) (hl : (ap.endLine == cp.line) = true)
    (step : ∀ (F : NS) (s : S) (σ : L2.St) (H : Hp) (p : Addr) (v : V) (d : D) (xs : List D) (vs : List V) (Q : VK), StOk X.K F s σ H → s[i]? = some (.ow (.lst xs)) → σ[i]? = some (some (.ref p)) → H p = some (.lst vs) → RpA X.K (Hid (Nn F s σ) H) vs xs → Rp X.K (Hid (Nn F s σ) H) v d →
      (Wp X.K EC W F s σ H (g d xs s) fun z s' => ∀ v' H', AftS X.K F s σ H z s' v' H' → Q v' H') → r (.ref p) [v] H Q) :
    PE X (.Call (.Attribute (.Name n p1) mn ap) [a] [] cp) (tE X.K EC W ((ownL i).bind fun _ => (frz ma).bind fun d => (ownL i).bind fun xs => g d xs)) :=
  peW (pe_bm PySem.F.plainAttrs_list slot hty hm hv (pa_cons (pe_frz ha) pa_nil (star_cons na _)) (by rfl) (few_one na) hl (star_cons na _) (star_all [] cp X.env rfl)) fun σ H Q ⟨F, s, k, w⟩ => by
    obtain ⟨xs, e, _, w⟩ := Wp.ownL w
    obtain ⟨p, ep, vs, hp, rv⟩ := k.ow i _ e
    refine ⟨.ref p, ep, .inl ⟨rfl, vs, SqL.of hp⟩, F, s, k, w.bind.mono fun d s1 hd v H1 ad => ?_⟩
    obtain ⟨xs1, e1, _, hd⟩ := Wp.ownL hd
    obtain ⟨p1, ep1, vs1, hp1, rv1⟩ := ad.ok.ow i _ e1
    rw [ep] at ep1
    cases ep1
    exact step F s1 σ H1 p v d xs1 vs1 Q ad.ok e1 ep hp1 rv1 ad.rp ((hd.on ad.fr).mono fun z s' hz v' H' aft => hz v' H' (aft.back ad.fr))
theorem E_pop (hv : PE X (.Name n p1) (tVar i)) (ha : PE X a (tE X.K EC W ma)) (na : noStar a = true) (hl : (ap.endLine == cp.line) = true) :
    PE X (.Call (.Attribute (.Name n p1) "pop" ap) [a] [] cp) (tE X.K EC W ((ownL i).bind fun _ => (frz ma).bind fun d => (ownL i).bind fun xs => popM i d xs)) :=
  E_met (g := popM i) PySem.F.slot_list_pop PySem.F.type_list_pop mt_popAt hv ha na hl fun F s σ H p v d xs vs Q k e ep hp rv r w => by
    cases d with
    | int z =>
      have w : Wp X.K EC W F s σ H ((if -(2 ^ 63) ≤ z ∧ z < 2 ^ 63 then (lift (popD xs z)).bind fun p => (setL i p.2).bind fun _ => M.pure (Sl.sh p.1) else bad) s) (fun z' s' => ∀ v' H', AftS X.K F s σ H z' s' v' H' → Q v' H') := w
      by_cases c : -(2 ^ 63) ≤ z ∧ z < 2 ^ 63
      · rw [if_pos c] at w
        obtain ⟨q, e1, w⟩ := w.bind.lift
        cases r
        cases hk : seqIndex? z xs.length with
        | none => simp only [popD, hk] at e1; cases e1
        | some kk =>
          cases hy : xs[kk]? with
          | none => simp only [popD, hk, hy] at e1; cases e1
          | some y =>
            simp only [popD, hk, hy] at e1
            cases e1
            obtain ⟨u, hu, ru⟩ := rv.get hy
            rw [← rv.length] at hk
            obtain ⟨k1, f1⟩ := k.lset e ep (rv.erase kk)
            have w : ∀ v' H', AftS X.K F s σ H (.sh y) (s.set i (.ow (.lst (xs.eraseIdx kk)))) v' H' → Q v' H' := w
            exact ⟨p, vs, z, kk, u, rfl, rfl, hp, c.1, c.2, hk, hu, w _ _ ⟨k1, f1, Rp.mono f1.le _ _ ru⟩⟩
      · rw [if_neg c] at w
        exact w.elim
    | _ => exact w.elim
theorem non_use {F : NS} {s : S} {σ : L2.St} {H : Hp} {p : Addr} {xs ys : List D} {us : List V} {Q : VK} (k : StOk X.K F s σ H) (e : s[i]? = some (.ow (.lst xs))) (ep : σ[i]? = some (some (.ref p))) (r : RpA X.K (Hid (Nn F s σ) H) us ys)
    (w : Wp X.K EC W F s σ H (nonM i ys s) fun z s' => ∀ v' H', AftS X.K F s σ H z s' v' H' → Q v' H') : Q .non (upd H p (.lst us)) := by
  obtain ⟨k1, f1⟩ := k.lset e ep r
  have w : ∀ v' H', AftS X.K F s σ H (.sh .none) (s.set i (.ow (.lst ys))) v' H' → Q v' H' := w
  exact w _ _ ⟨k1, f1, .non⟩
theorem E_app (hv : PE X (.Name n p1) (tVar i)) (ha : PE X a (tE X.K EC W ma)) (na : noStar a = true) (hl : (ap.endLine == cp.line) = true) :
    PE X (.Call (.Attribute (.Name n p1) "append" ap) [a] [] cp) (tE X.K EC W ((ownL i).bind fun _ => (frz ma).bind fun d => (ownL i).bind fun xs => appM i d xs)) :=
  E_met (r := rAppend) (g := appM i) PySem.F.slot_list_append PySem.F.type_list_append mt_append hv ha na hl fun F s σ H p v d xs vs Q k e ep hp rv r w => by
    unfold appM at w
    by_cases c : xs.length < sizeLine
    · rw [if_pos c] at w
      exact ⟨p, vs, v, rfl, rfl, hp, by rw [rv.length]; exact c, non_use k e ep (rv.append (.cons r .nil)) w⟩
    · rw [if_neg c] at w
      exact w.elim
def rExtR (K : PySem.W.Frag) : V → List V → Hp → VK → Prop := fun x vs H Q => ∃ l b xs zs, x = .ref l ∧ vs = [.ref b] ∧ H l = some (.lst xs) ∧ RdK K H b zs ∧ xs.length + zs.length ≤ sizeLine ∧ Q .non (upd H l (.lst (xs ++ zs)))
theorem mt_extR : MtM X "list.extend" (rExtR X.K) := by
  intro pins s σ H x vs v us Q I rx rv h
  obtain ⟨l, b, xs, zs, rfl, rfl, hH, hB, hz, q⟩ := h
  cases rx
  obtain ⟨u, rfl, ru⟩ := rv.one
  cases ru
  obtain ⟨z, its, n, r, hl, e⟩ := I.lstM hH
  obtain ⟨_, its2, n2, r2, e2⟩ := hB.obj I.kIn I.hok
  have hl2 := r2.length
  have hsz : its.toArray.size + its2.toArray.size ≤ sizeLine := by rw [List.size_toArray, List.size_toArray]; omega
  have hlong : ¬ (!its.toArray.isEmpty && Builtin.List.listTooLong (its.toArray.size + its2.toArray.size)) = true := by
    rw [notLongL hsz, Bool.and_false]
    exact Bool.false_ne_true
  refine call_meets F.slot_list_extend ⟨_, e, rfl⟩ F.entry_list_extend (F.args_list_extend_2 _ _)
    (AutoSeq1.list_extend_list_list_0 l its.toArray n b its2.toArray n2 hlong (by rw [List.size_toArray]; omega) (by omega)) ⟨e, e2, ?_⟩
  refine ⟨.non, _, I.lset (its' := its ++ its2) hH e (by simp) (r.append r2) ?_, rfl, q⟩
  rw [List.length_append]
  omega
theorem E_ext (hv : PE X (.Name n p1) (tVar i)) (ha : PE X a (tE X.K EC W ma)) (na : noStar a = true) (hl : (ap.endLine == cp.line) = true) :
    PE X (.Call (.Attribute (.Name n p1) "extend" ap) [a] [] cp) (tE X.K EC W ((ownL i).bind fun _ => (frz ma).bind fun d => (ownL i).bind fun xs => extM i d xs)) :=
  E_met (r := rExtR X.K) (g := extM i) PySem.F.slot_list_extend PySem.F.type_list_extend mt_extR hv ha na hl fun F s σ H p v d xs vs Q k e ep hp rv r w => by
    cases d with
    | list ys =>
      have w : Wp X.K EC W F s σ H ((if xs.length + ys.length ≤ sizeLine then nonM i (xs ++ ys) else bad) s) (fun z' s' => ∀ v' H', AftS X.K F s σ H z' s' v' H' → Q v' H') := w
      by_cases c : xs.length + ys.length ≤ sizeLine
      · rw [if_pos c] at w
        cases r with
        | lst r1 r2 => exact ⟨p, _, vs, _, rfl, rfl, hp, hid_le.rdK r1, by rw [rv.length, r2.length]; exact c, non_use k e ep (rv.append r2) w⟩
      · rw [if_neg c] at w
        exact w.elim
    | _ => exact w.elim
def rIns : V → List V → Hp → VK → Prop := fun x vs H Q => ∃ l xs k y, x = .ref l ∧ vs = [.int k, y] ∧ H l = some (.lst xs) ∧ 0 ≤ k ∧ k ≤ xs.length ∧ xs.length < sizeLine ∧ Q .non (upd H l (.lst (xs.take k.toNat ++ y :: xs.drop k.toNat)))
theorem mt_ins : MtM X "list.insert" rIns := by
  intro pins s σ H x vs v us Q I rx rv h
  obtain ⟨l, xs, k, y, rfl, rfl, hH, h0, h1, hz, q⟩ := h
  cases rx
  obtain ⟨u, w, rfl, ru, rw'⟩ := rv.two
  obtain ⟨t, rfl⟩ := ru
  obtain ⟨z, its, n, r, hl, e⟩ := I.lstM hH
  have hn := line63
  have hf : ¬ (!Builtin.List.listFitsIndex k) = true := by rw [fitsIndex_both (by omega) (by omega)]; decide
  refine call_meets F.slot_list_insert ⟨_, e, rfl⟩ F.entry_list_insert (F.args_list_insert_3 _ _ _) (AutoSeq1.list_insert_list_int_val_1 l its.toArray n k t w hf (by rw [List.size_toArray]; omega)) ⟨e, ?_⟩
  refine ⟨.non, _, I.lset (its' := its.take k.toNat ++ w :: its.drop k.toNat) hH e ?_ ((r.take k.toNat).append (.cons rw' (r.drop k.toNat))) ?_, rfl, q⟩
  · have hk : ¬ k < 0 := by omega
    have hm : min k.toNat its.length = k.toNat := by omega
    simp [hk, hm]
    rw [List.take_of_length_le (by rw [List.length_drop]; exact Nat.le_refl _)]
  · simp only [List.length_append, List.length_cons, List.length_take, List.length_drop]
    omega
theorem E_ins (hv : PE X (.Name n p1) (tVar i)) (ha : PE X a (tE X.K EC W ma)) (hb : PE X b (tE X.K EC W mb)) (na : noStar a = true) (nb : noStar b = true) (hl : (ap.endLine == cp.line) = true) :
    PE X (.Call (.Attribute (.Name n p1) "insert" ap) [a, b] [] cp) (tE X.K EC W ((ownL i).bind fun _ => (frz ma).bind fun q => (frz mb).bind fun d => (ownL i).bind fun xs => insM i q d xs)) :=
  peW (pe_bm (r := rIns) PySem.F.plainAttrs_list PySem.F.slot_list_insert PySem.F.type_list_insert mt_ins hv (pa_cons (pe_frz ha) (pa_cons (pe_frz hb) pa_nil (star_cons nb _)) (star_cons na _)) (by rfl) (by rw [star_cons na, star_cons nb] <;> rfl) hl (star_cons na _) (star_all [b] cp X.env (by rw [List.all_cons, nb] <;> rfl))) fun σ H Q ⟨F, s, k, w⟩ => by
    obtain ⟨xs, e, _, w⟩ := Wp.ownL w
    obtain ⟨p, ep, vs, hp, rv⟩ := k.ow i _ e
    refine ⟨.ref p, ep, .inl ⟨rfl, vs, SqL.of hp⟩, F, s, k, w.bind.mono fun d s1 hd v H1 ad => ?_⟩
    refine ⟨F, s1, ad.ok, ((hd.on ad.fr).bind).mono fun d2 s2 hd v2 H2 ad2 => ?_⟩
    obtain ⟨xs1, e1, _, hd⟩ := Wp.ownL hd
    obtain ⟨p1, ep1, vs1, hp1, rv1⟩ := ad2.ok.ow i _ e1
    rw [ep] at ep1
    cases ep1
    have f2 := ad.fr.trans ad2.fr
    have r1 := Rp.mono ad2.fr.le _ _ ad.rp
    cases d with
    | int z =>
      have hd : Wp X.K EC W F s1 σ H1 ((if 0 ≤ z ∧ z ≤ xs1.length ∧ xs1.length < sizeLine then nonM i (xs1.take z.toNat ++ d2 :: xs1.drop z.toNat) else bad) s2) (fun z' s' => ∀ v' H', AftS X.K F s σ H z' s' v' H' → Q v' H') := hd
      by_cases c : 0 ≤ z ∧ z ≤ xs1.length ∧ xs1.length < sizeLine
      · rw [if_pos c] at hd
        cases r1
        refine ⟨p, vs1, z, v2, rfl, rfl, hp1, c.1, by rw [rv1.length]; exact c.2.1, by rw [rv1.length]; exact c.2.2, ?_⟩
        refine non_use ad2.ok e1 ep ((rv1.take z.toNat).append (.cons ad2.rp (rv1.drop z.toNat))) ((hd.on ad2.fr).mono fun y s' hz v' H' aft => hz v' H' (aft.back f2))
      · rw [if_neg c] at hd
        exact hd.elim
    | _ => exact hd.elim
end
end Hg
set_option Elab.async false
set_option linter.all false
set_option maxRecDepth 100000
set_option maxHeartbeats 400000
/-! One rule a term: values put together by `or`, dicts with plain keys. -/
namespace Hg
open PySem PySem.Spec PyProof.Rows L2
section
variable {X : Cx} {EC : Nat → Addr} {W : WX} {C : Cal} {e a b c : Expr} {es : List Expr} {m ma mb mc : M Sl} {pos : Pos}
theorem RpA.emp {K : PySem.W.Frag} {H : Hp} {vs : List V} {ds : List D} (h : RpA K H vs ds) : vs.isEmpty = ds.isEmpty := by
  cases h <;> rfl
theorem tru_of {K : PySem.W.Frag} {N : NS} {H : Hp} {v : V} {d : D} {k : Bool} (r : Rp K (Hid N H) v d) (e : truD d = some k) : TruV K v H k := by
  cases d with
  | none => cases r; cases e; exact rfl
  | bool q => cases r; cases e; exact rfl
  | int i => cases r; cases e; exact rfl
  | str x => cases e
  | list xs =>
    cases e
    cases r with
    | lst x y => exact .inl ⟨_, hid_le.sqL x.sqL, by rw [y.emp]⟩
  | tuple xs =>
    cases e
    cases r with
    | tup x y => exact .inr (.inl ⟨_, hid_le.sqT x, by rw [y.emp]⟩)
  | dict xs => cases e
theorem E_orv {p : Pos} (ha : PE X a (tE X.K EC W ma)) (hb : PE X b (tE X.K EC W mb)) : PE X (.BoolOp .Or [a, b] p) (tE X.K EC W ((frz ma).bind fun d => (lift (truD d)).bind fun k => if k then M.pure (.sh d) else mb)) :=
  peW (pe_orT (pe_frz ha) (pe_one hb)) fun σ H Q ⟨F, s, k, w⟩ => ⟨F, s, k, w.bind.mono fun d s1 hd v H1 ad => by
    obtain ⟨q, e, hd⟩ := hd.bind.lift
    refine ⟨q, tru_of ad.rp e, ?_⟩
    cases q with
    | true =>
      rw [if_pos rfl]
      have hd : ∀ v H', AftS X.K F s σ H (.sh d) s1 v H' → Q v H' := hd
      exact hd v H1 ad
    | false =>
      rw [if_neg (by decide)]
      exact ⟨F, s1, ad.ok, (Wp.on ad.fr hd).mono fun r s2 hr u H2 ar => hr u H2 (ar.back ad.fr)⟩⟩
theorem std_tru (h : stdT a = true) : ∀ whole, isTrue a X.env whole = (do let v ← whole; standAt a.pos; holding [v] (truthy v)) := by
  intro whole
  cases a <;> first | rfl | (cases h)
theorem P_orv {p : Pos} (h : stdT a = true) (ha : PE X a (tE X.K EC W ma)) (hb : PT X b (tBo X.K EC W (testM mb))) : PT X (.BoolOp .Or [a, b] p) (tBo X.K EC W (testM ((frz ma).bind fun d => (lift (truD d)).bind fun k => if k then M.pure (.sh d) else mb))) :=
  ptW (pw_or (pt_truth (pe_frz ha) (std_tru h)) (pw_or1 hb)).pt fun σ H Q ⟨F, s, k, w⟩ => ⟨F, s, k, by
    have w : Wp X.K EC W F s σ H (((frz ((frz ma).bind fun d => (lift (truD d)).bind fun k => if k then M.pure (.sh d) else mb)).bind fun d => match d with
      | .bool b => M.pure b
      | _ => bad) s) _ := w
    refine w.bind.bind.bind.mono fun d s1 hd v H1 ad => ?_
    cases e : truD d with
    | none => rw [e] at hd; exact hd.elim
    | some q =>
      rw [e] at hd
      refine ⟨q, tru_of ad.rp e, ?_⟩
      cases q with
      | true =>
        rw [if_pos rfl]
        cases d with
        | bool b =>
          cases e
          have hd : ∀ H', AftB X.K F s σ H s1 H' → Q true H' := hd
          exact hd H1 ⟨ad.ok, ad.fr⟩
        | _ => exact hd.elim
      | false =>
        rw [if_neg (by decide)]
        refine ⟨F, s1, ad.ok, ?_⟩
        cases z : mb s1 with
        | bad => 
          have hd : Wp X.K EC W F s σ H (mb s1) _ := hd
          rw [z] at hd
          exact hd.elim
        | err e2 s2 =>
          have hd : Wp X.K EC W F s σ H (mb s1) _ := hd
          rw [z] at hd
          have e3 : testM mb s1 = .err e2 s2 := by
            show ((mb s1).bind _).bind _ = _
            rw [z]
            rfl
          rw [e3]
          exact Wp.on ad.fr hd
        | ok r s2 =>
          have hd : Wp X.K EC W F s σ H (mb s1) _ := hd
          rw [z] at hd
          cases r with
          | un => exact hd.elim
          | sh d2 =>
            cases d2 with
            | bool b2 =>
              have hd : ∀ H', AftB X.K F s σ H s2 H' → Q b2 H' := hd
              have e3 : testM mb s1 = .ok b2 s2 := by
                show ((mb s1).bind _).bind _ = _
                rw [z]
                rfl
              rw [e3]
              intro H2 a2
              exact hd H2 ⟨a2.ok, ad.fr.trans a2.fr⟩
            | _ => exact hd.elim
          | ow o => cases o <;> exact hd.elim⟩
/-! ### look-ups -/
def kyOf : D → Option Key
  | .int i => some (.inl i)
  | .str x => some (.inr x)
  | _ => none
theorem kyOf_key {d : D} {k : Key} (h : kyOf d = some k) : d = keyD k := by
  cases d <;> first | (cases h; rfl) | cases h
theorem keyEq_iff {j : Key} {d : D} {k : Key} (h : kyOf d = some k) : keyEq (keyD j) d = decide (j = k) := by
  cases d with
  | int i =>
    cases h
    cases j with
    | inl z => show decide (z = i) = _; simp
    | inr z => rfl
  | str x =>
    cases h
    cases j with
    | inl z => rfl
    | inr z => show decide (z = x) = _; simp
  | _ => cases h
theorem keyD_key (k : Key) : kyOf (keyD k) = some k := by cases k <;> rfl
theorem look_of {K : PySem.W.Frag} {H : Hp} {k : Key} {d : D} (hk : kyOf d = some k) : ∀ {ks : List (Key × V)} {kvs : List (D × D)}, RpK K H ks kvs → (match lookD kvs d with
    | some v => ∃ u, valV ks k = some u ∧ Rp K H u v
    | none => valV ks k = none)
  | _, _, .nil => rfl
  | _, _, .cons (k := j) (v := v) (vs := vs) (d := e) (ds := ds) r q => by
    have ih := look_of hk q
    unfold lookD
    rw [keyEq_iff hk]
    by_cases c : j = k
    · rw [decide_eq_true c, if_pos rfl]
      exact ⟨v, valV_pos c, r⟩
    · rw [decide_eq_false c, if_neg (by decide)]
      have z : valV ((j, v) :: vs) k = valV vs k := valV_neg c
      rw [z]
      exact ih
theorem look_key {kvs : List (D × D)} {d v : D} (h : lookD kvs d = some v) : ∃ k, kyOf d = some k := by
  induction kvs with
  | nil => cases h
  | cons p r ih =>
    obtain ⟨k, u⟩ := p
    unfold lookD at h
    by_cases c : keyEq k d = true
    · cases d with
      | int i => exact ⟨_, rfl⟩
      | str x => exact ⟨_, rfl⟩
      | _ => cases k <;> cases c
    · rw [if_neg c] at h
      exact ih h
theorem look_E {K : PySem.W.Frag} {H : Hp} {d : D} : ∀ {xs : Xs} {kvs : List (D × D)}, RpE K H xs kvs → lookD kvs d = none
  | _, _, .nil => rfl
  | _, _, .cons (k := j) (d := e) (ds := ds) _ _ r q => by
    unfold lookD
    have z : keyEq (keyT j) d = false := by cases d <;> rfl
    rw [z, if_neg (by decide)]
    exact look_E q
theorem key_v {K : PySem.W.Frag} {H : Hp} {v : V} {d : D} {k : Key} (r : Rp K H v d) (h : kyOf d = some k) : v = kV k := by
  cases d with
  | int i => cases h; cases r; rfl
  | str x => cases h; cases r; rfl
  | _ => cases h
theorem E_dix {oa : M Op} (hu : X.A.units + 1 < cLine) (ha : PE X a (tO X.K EC W oa)) (hb : PE X b (tE X.K EC W mb)) (hs : NoSl b) : PE X (.Subscript a b pos) (tE X.K EC W (oa.bind fun x => (frz mb).bind fun e => (resO x).bind fun d => lift ((dixD d e).map .sh))) :=
  peW (pe_dget hu ha (pe_frz hb) hs) fun σ H Q ⟨F, s, k, w⟩ => ⟨F, s, k, w.bind.mono fun x s1 hx v H1 ax => by
    obtain ⟨k1, f1⟩ := ax.ok k
    refine ⟨F, s1, k1, ((hx.on f1).bind).mono fun y s2 hy u H2 ay => ?_⟩
    obtain ⟨d, e1, hy1⟩ := (hy.on ay.fr).res
    obtain ⟨r, e3, hy2⟩ := hy1.lift
    obtain ⟨q, e4, rfl⟩ := Option.map_eq_some_iff.mp e3
    have rd := (ax.use ay.ok ay.fr e1).2
    clear hy hy1
    cases d with
    | dict kvs =>
      have e4 : lookD kvs y = some q := e4
      obtain ⟨p, rfl, z⟩ := rd
      obtain ⟨key, hk⟩ := look_key e4
      rcases z with ⟨o', xs, hp, dd, rk⟩ | ⟨ks, hp, nn, rk⟩
      · rw [look_E rk] at e4
        cases e4
      · have l := look_of hk rk
        rw [e4] at l
        obtain ⟨u', l1, l2⟩ := l
        refine ⟨p, u', rfl, ?_, hy2 u' H2 ⟨ay.ok, f1.trans ay.fr, l2⟩⟩
        rw [key_v ay.rp hk, ← l1]
        exact DGet.k hp
    | _ => cases e4⟩
/-! ### displays -/
theorem keys_at : ∀ (l : List Str) (es : List (Option Expr)), chKs l es = true → es.all (·.isSome) = true ∧ es.length = l.length
  | [], es, h => by
    unfold chKs at h
    cases es with
    | nil => exact ⟨rfl, rfl⟩
    | cons o es => cases h
  | y :: ys, es, h => by
    unfold chKs at h
    cases es with
    | nil => cases h
    | cons o es =>
      cases o with
      | none => cases h
      | some e =>
        have h : (keyC y e && chKs ys es) = true := h
        rw [Bool.and_eq_true] at h
        obtain ⟨i1, i2⟩ := keys_at ys es h.2
        exact ⟨i1, by rw [List.length_cons, List.length_cons, i2]⟩
/-- each expression by itself -/
def PEs (X : Cx) (EC : Nat → Addr) (W : WX) (C : Cal) : Exs → List Expr → Prop
  | .nil, [] => True
  | .cons e es, a :: l => PE X a (tE X.K EC W (evE C e)) ∧ PEs X EC W C es l
  | _, _ => False
noncomputable def trsOf (K : PySem.W.Frag) (EC : Nat → Addr) (W : WX) (C : Cal) : List Str → Exs → List (TE × TE)
  | x :: xs, .cons e es => (tC (.str x), tE K EC W (evE C e)) :: trsOf K EC W C xs es
  | _, _ => []
theorem pps_of : ∀ {ys : List Str} {keys : List (Option Expr)} {es : Exs} {l : List Expr}, chKs ys keys = true → PEs X EC W C es l → ys.length = l.length → PPs X pos keys l (trsOf X.K EC W C ys es)
  | [], keys, es, l, h, h2, hl => by
    obtain ⟨_, q⟩ := keys_at _ _ h
    cases keys with
    | cons a b => cases q
    | nil =>
      cases l with
      | cons a b => cases hl
      | nil =>
        unfold trsOf
        exact pps_nil
  | y :: ys, keys, es, l, h, h2, hl => by
    cases l with
    | nil => cases hl
    | cons a l =>
      unfold chKs at h
      cases keys with
      | nil => cases h
      | cons o keys =>
        cases o with
        | none => cases h
        | some e =>
          have h : (keyC y e && chKs ys keys) = true := h
          rw [Bool.and_eq_true] at h
          obtain ⟨h1, h3⟩ := h
          cases es with
          | nil => exact h2.elim
          | cons ee es =>
            obtain ⟨q1, q2⟩ := h2
            have q3 := pps_of h3 q2 (by simpa using hl)
            unfold keyC at h1
            split at h1
            · cases of_decide_eq_true h1
              exact pps_cons pe_str q1 q3
            · cases h1
theorem T_pairs {F : NS} : ∀ {ys : List Str} {es : Exs} {s s' : S} {σ : L2.St} {H : Hp} {ds : List D} {RR : List (V × V) → Hp → Prop}, evDs C es s = .ok ds s' → ds.length = ys.length → StOk X.K F s σ H →
    (∀ us H', StOk X.K F s' σ H' → Fr F (Nn F s σ) H (Nn F s' σ) H' → RpA X.K (Hid (Nn F s' σ) H') us ds → RR ((ys.zip us).map fun p => (.str p.1, p.2)) H') → tPairs (trsOf X.K EC W C ys es) σ H RR
  | ys, .nil, s, s', σ, H, ds, RR, h, hl, k, w => by
    cases (show R.ok [] s = .ok ds s' from h)
    cases ys with
    | cons a b => cases hl
    | nil => exact w [] H k Fr.refl .nil
  | ys, .cons e es, s, s', σ, H, ds, RR, h, hl, k, w => by
    obtain ⟨d, s1, h1, h2⟩ := M.bind_ok (show ((frz (evE C e)).bind fun d => (evDs C es).bind fun ds => M.pure (d :: ds)) s = .ok ds s' from h)
    obtain ⟨ds', s2, h3, h4⟩ := M.bind_ok h2
    cases (show R.ok (d :: ds') s2 = .ok ds s' from h4)
    obtain ⟨r, s3, h5, h6⟩ := M.bind_ok h1
    cases ys with
    | nil => cases hl
    | cons y ys =>
      refine ⟨F, s, k, ?_⟩
      rw [h5]
      intro v H1 av
      have ed : r.data = some d ∧ s3 = s1 := by
        cases z : r.data with
        | none => rw [z] at h6; cases h6
        | some d' => rw [z] at h6; cases h6; exact ⟨rfl, rfl⟩
      obtain ⟨ed, rfl⟩ := ed
      have ad := av.data ed
      refine T_pairs (F := F) h3 (by simpa using hl) ad.ok fun us H' k' f' r' => ?_
      exact w (v :: us) H' k' (ad.fr.trans f') (.cons (Rp.mono f'.le _ _ ad.rp) r')
theorem val_none {κ : Type} [DecidableEq κ] {kvs : List (κ × V)} {k : κ} (h : k ∉ kvs.map (·.1)) : valV kvs k = none := by
  induction kvs with
  | nil => rfl
  | cons p r ih =>
    rw [List.map_cons, List.mem_cons, not_or] at h
    rw [valV_neg fun z => h.1 z.symm]
    exact ih h.2
theorem merge_new : ∀ (more acc : List (Key × V)), ((acc ++ more).map (·.1)).Nodup → mergeK acc more = acc ++ more
  | [], acc, _ => by rw [List.append_nil]; rfl
  | p :: r, acc, h => by
    have e : putK acc p.1 p.2 = acc ++ [p] := by
      refine putK_new _ (val_none ?_)
      rw [List.map_append, List.map_cons] at h
      exact fun z => (List.nodup_append.mp h).2.2 _ z _ List.mem_cons_self rfl
    show mergeK (putK acc p.1 p.2) r = _
    rw [e, merge_new r (acc ++ [p]) (by rw [List.append_assoc]; exact h), List.append_assoc]
    rfl
theorem rpK_zip {K : PySem.W.Frag} {H : Hp} : ∀ {l : List Str} {us : List V} {ds : List D}, RpA K H us ds → RpK K H ((l.zip us).map fun p => (Sum.inr p.1, p.2)) ((l.zip ds).map fun p => (.str p.1, p.2))
  | [], _, _, _ => .nil
  | _ :: _, _, _, .nil => .nil
  | x :: l, _, _, .cons a b => .cons (k := .inr x) a (rpK_zip b)
theorem zip_keys {l : List Str} : ∀ {us : List V}, us.length = l.length → ((l.zip us).map fun p => ((Sum.inr p.1 : Key), p.2)).map (·.1) = l.map Sum.inr := by
  induction l with
  | nil => intro us _; rfl
  | cons x l ih =>
    intro us h
    cases us with
    | nil => cases h
    | cons u us =>
      rw [List.zip_cons_cons, List.map_cons, List.map_cons, List.map_cons, ih (by simpa using h)]
theorem E_dic {ys : List Str} {keys : List (Option Expr)} {vs : Exs} {l : List Expr} (hk : chKs ys keys = true) (hv : PEs X EC W C vs l) (hl : keys.length = l.length) : PE X (.Dict keys l pos) (tE X.K EC W (noErr ((evDs C vs).bind fun ds => lift (dicD ys ds)))) := by
  obtain ⟨k1, k2⟩ := keys_at _ _ hk
  by_cases c0 : ys = []
  · subst c0
    have e1 : keys = [] := List.length_eq_zero_iff.mp k2
    subst e1
    have e2 : l = [] := List.length_eq_zero_iff.mp hl.symm
    subst e2
    cases vs with
    | cons a b => exact hv.elim
    | nil =>
      refine peW pe_dnewE fun σ H Q ⟨F, s, k, w⟩ => ?_
      intro p o hp dd
      have w : ∀ v H', AftS X.K F s σ H (.ow (.dic [])) s v H' → Q v H' := w
      obtain ⟨ka, fa⟩ := k.newOw (o := ExO p o) (.ex dd) hp
      exact w _ _ ⟨p, rfl, ka, fa, fun z => k.free hp (.inl z), .inl ⟨o, [], upd_same, dd, .nil⟩⟩
  by_cases c : ys.Nodup ∧ ys.length ≤ 15 ∧ ys ≠ []
  · refine peW (pe_disp (pps_of hk hv (by rw [← k2, hl])) k1 hl (fun z => c.2.2 (by rw [z] at k2; exact List.length_eq_zero_iff.mp k2.symm)) (by rw [k2]; exact c.2.1)) fun σ H Q ⟨F, s, k, w⟩ => ?_
    intro p hp
    cases q : ((evDs C vs).bind fun ds => lift (dicD ys ds)) s with
    | bad =>
      unfold noErr at w
      rw [q] at w
      exact w.elim
    | err e s' =>
      unfold noErr at w
      rw [q] at w
      exact w.elim
    | ok r s' =>
      unfold noErr at w
      rw [q] at w
      have w : ∀ v H', AftS X.K F s σ H r s' v H' → Q v H' := w
      obtain ⟨ds, s1, e1, e2⟩ := M.bind_ok q
      unfold dicD at e2
      by_cases c2 : ys.Nodup ∧ ys.length ≤ 15 ∧ ys ≠ [] ∧ ds.length = ys.length
      · rw [if_pos c2] at e2
        cases (show R.ok (Sl.ow (.dic ((ys.zip ds).map fun p => (.str p.1, p.2)))) s1 = .ok r s' from e2)
        obtain ⟨ka, fa⟩ := k.newOw (o := .dK []) .dK hp
        refine T_pairs (F := Ad F p) e1 c2.2.2.2 ka fun us H2 k2 f2 r2 => ?_
        have ul := r2.length
        have hp2 : H2 p = some (.dK []) := (f2.keep p (.inr rfl)).trans upd_same
        refine ⟨hp2, (ys.zip us).map fun p => (Sum.inr p.1, p.2), ?_, ?_, ?_⟩
        · rw [List.map_map]
          rfl
        · rw [List.length_map, List.length_zip]
          omega
        · have em : mergeK [] ((ys.zip us).map fun p => ((Sum.inr p.1 : Key), p.2)) = (ys.zip us).map fun p => (Sum.inr p.1, p.2) := by
            refine merge_new _ [] ?_
            rw [List.nil_append, zip_keys (by omega)]
            exact List.Pairwise.map _ (fun a b h z => h (by injection z)) c2.1
          rw [em]
          have nD : Nn (Ad F p) s' σ p := .inl (.inr rfl)
          have l7 : Le (Hid (Nn (Ad F p) s' σ) H2) (Hid (Nn (Ad F p) s' σ) (upd H2 p (.dK ((ys.zip us).map fun p => (Sum.inr p.1, p.2))))) := fun b u _ z => by
            obtain ⟨a, z⟩ := hid_iff.mp z
            have nb : b ≠ p := fun y => a (y ▸ nD)
            exact hid_iff.mpr ⟨a, by rw [upd_ne nb]; exact z⟩
          have k7 : StOk X.K (Ad F p) s' σ (upd H2 p (.dK ((ys.zip us).map fun p => (Sum.inr p.1, p.2)))) := by
            refine ⟨k2.len, fun j d' e => ?_, fun j o' e => ?_, k2.inj, k2.ap, fun b z => ?_, ?_⟩
            · obtain ⟨v, q1, q2⟩ := k2.sh j d' e
              exact ⟨v, q1, Rp.mono l7 _ _ q2⟩
            · obtain ⟨p', q1, q2⟩ := k2.ow j o' e
              exact ⟨p', q1, q2.mono (upd_ne fun y => k2.ap p' ⟨j, o', e, q1⟩ (.inr y)) l7⟩
            · by_cases hb : b = p
              · rw [hb]
                exact ⟨_, upd_same, .dK⟩
              · rw [upd_ne hb]
                exact k2.dom b z
            · exact k2.tb.put hp2 .dK
          have ff := fa.trans (⟨fun b z => f2.keep b (.inl z), f2.imm⟩ : Fr F _ _ _ _)
          refine w _ _ ⟨p, rfl, k7, ⟨fun b z => ?_, fun b u n tb z => ?_⟩, fun z => k.free hp (.inl z), .inr ⟨_, upd_same, (fun z => c.2.2 (List.length_eq_zero_iff.mp (by have := congrArg List.length z; rw [List.length_map, List.length_zip, List.length_nil] at this; omega))), RpK.mono l7 _ _ (rpK_zip r2)⟩⟩
          · have nb : b ≠ p := fun y => by
              obtain ⟨u, e, _⟩ := k.dom b z
              rw [y, hp] at e
              cases e
            rw [upd_ne nb]
            exact ff.keep b z
          · obtain ⟨z1, n1⟩ := ff.imm b u n tb z
            have nb : b ≠ p := fun y => n1 (y ▸ nD)
            exact ⟨by rw [upd_ne nb]; exact z1, n1⟩
      · rw [if_neg c2, if_neg (fun z => c0 z.1)] at e2
        cases e2
  · refine ⟨fun pins s σ H Q I ⟨F, t, k, w⟩ => ?_⟩
    exfalso
    have z : ∀ ds, dicD ys ds = none := fun ds => by
      unfold dicD
      rw [if_neg fun z => c ⟨z.1, z.2.1, z.2.2.1⟩, if_neg (fun z => c0 z.1)]
    unfold noErr at w
    cases q : ((evDs C vs).bind fun ds => lift (dicD ys ds)) t with
    | bad => rw [q] at w; exact w.elim
    | err e s' => rw [q] at w; exact w.elim
    | ok r s' =>
      obtain ⟨ds, s1, e1, e2⟩ := M.bind_ok q
      rw [z] at e2
      cases e2
/-! ### get -/
theorem few_two {env : Env} {cp : Pos} (h : noStar a = true) (h2 : noStar b = true) : ((backTo cp (starEach [a, b] env)).all (fun x => !x.1) && (backToKw cp (keywordEach [] env)).all (fun x => x.1.isSome)
      && decide (([a, b] : List Expr).length + ([] : List Keyword).length + (if ([] : List Keyword).isEmpty then 0 else 1) < 30)) = true := by
  rw [star_cons h, star_cons h2]
  rfl
end
end Hg
set_option Elab.async false
set_option linter.all false
set_option maxRecDepth 100000
set_option maxHeartbeats 400000
/-! One rule a term: dicts whose keys are tuples of whole numbers. -/
namespace Hg
open PySem PySem.Spec PyProof.Rows L2
theorem Rp.key {K : PySem.W.Frag} {H : Hp} {v : V} {d : D} {k : List Int} (h : Rp K H v d) (e : tkD d = some k) : ∃ b, v = .ref b ∧ SqT K H b (k.map V.int) := by
  cases tkD_eq e
  have h : Rp K H v (.tuple (k.map .int)) := h
  cases h with
  | tup a r =>
    cases r.ints (intsD_map k)
    exact ⟨_, rfl, a⟩
section
variable {X : Cx} {EC : Nat → Addr} {W : WX} {C : Cal} {e a b c : Expr} {es : List Expr} {m ma mb mc : M Sl} {pos : Pos}
noncomputable def trs2 (K : PySem.W.Frag) (EC : Nat → Addr) (W : WX) (C : Cal) : Exs → List (TE × TE)
  | .cons k (.cons v es) => (tE K EC W (evE C k), tE K EC W (evE C v)) :: trs2 K EC W C es
  | _ => []
theorem pps2 : ∀ {keys : List (Option Expr)} {l : List Expr} {es : Exs}, keys.all (·.isSome) = true → keys.length = l.length → PEs X EC W C es (interE keys l) → PPs X pos keys l (trs2 X.K EC W C es)
  | [], [], es, _, _, h => by
    have h : PEs X EC W C es [] := h
    cases es with
    | nil => exact pps_nil
    | cons a b => exact h.elim
  | [], _ :: _, _, _, hl, _ => nomatch hl
  | _ :: _, [], _, _, hl, _ => nomatch hl
  | none :: _, _ :: _, _, ha, _, _ => by simp at ha
  | some k :: keys, v :: l, es, ha, hl, h => by
    have h : PEs X EC W C es (k :: v :: interE keys l) := h
    cases es with
    | nil => exact h.elim
    | cons ek es =>
      obtain ⟨h1, h⟩ := h
      cases es with
      | nil => exact h.elim
      | cons ev es =>
        obtain ⟨h2, h⟩ := h
        exact pps_cons h1 h2 (pps2 (by simpa using ha) (by simpa using hl) h)
theorem frz_ok {m : M Sl} {s s' : S} {d : D} (h : frz m s = .ok d s') : ∃ r, m s = .ok r s' ∧ r.data = some d := by
  obtain ⟨r, s3, h5, h6⟩ := M.bind_ok h
  cases z : r.data with
  | none => rw [z] at h6; cases h6
  | some d' => rw [z] at h6; cases h6; exact ⟨r, h5, z⟩
theorem T_two {F : NS} : ∀ {es : Exs} {s s' : S} {σ : L2.St} {H : Hp} {ds : List D} {m : Tb2} {RR : List (V × V) → Hp → Prop}, evDs C es s = .ok ds s' → twoT ds = some m → StOk X.K F s σ H →
    (∀ ps H', StOk X.K F s' σ H' → Fr F (Nn F s σ) H (Nn F s' σ) H' → PsM X.K (Hid (Nn F s' σ) H') ps m → RR ps H') → tPairs (trs2 X.K EC W C es) σ H RR
  | .nil, s, s', σ, H, ds, m, RR, h, hm, k, w => by
    cases (show R.ok [] s = .ok ds s' from h)
    cases (show some [] = some m from hm)
    exact w [] H k Fr.refl .nil
  | .cons ek .nil, s, s', σ, H, ds, m, RR, h, hm, k, w => by
    obtain ⟨d, s1, h1, h2⟩ := M.bind_ok (show ((frz (evE C ek)).bind fun d => (evDs C .nil).bind fun ds => M.pure (d :: ds)) s = .ok ds s' from h)
    obtain ⟨ds', s2, h3, h4⟩ := M.bind_ok h2
    cases (show R.ok [] s1 = .ok ds' s2 from h3)
    cases (show R.ok [d] s1 = .ok ds s' from h4)
    cases hm
  | .cons ek (.cons ev es), s, s', σ, H, ds, m, RR, h, hm, k, w => by
    obtain ⟨d, s1, h1, h2⟩ := M.bind_ok (show ((frz (evE C ek)).bind fun d => (evDs C (.cons ev es)).bind fun ds => M.pure (d :: ds)) s = .ok ds s' from h)
    obtain ⟨dr, s2, h3, h4⟩ := M.bind_ok h2
    cases (show R.ok (d :: dr) s2 = .ok ds s' from h4)
    obtain ⟨d2, s3, h5, h6⟩ := M.bind_ok (show ((frz (evE C ev)).bind fun d => (evDs C es).bind fun ds => M.pure (d :: ds)) s1 = .ok dr s' from h3)
    obtain ⟨dq, s4, h7, h8⟩ := M.bind_ok h6
    cases (show R.ok (d2 :: dq) s4 = .ok dr s' from h8)
    have hm : (match tkD d, twoT dq with
      | some ns, some m => some ((ns, d2) :: m)
      | _, _ => none) = some m := hm
    cases e1 : tkD d with
    | none => rw [e1] at hm; cases hm
    | some ns =>
      cases e2 : twoT dq with
      | none => rw [e1, e2] at hm; cases hm
      | some q =>
        rw [e1, e2] at hm
        cases hm
        obtain ⟨r1, q1, z1⟩ := frz_ok h1
        obtain ⟨r2, q2, z2⟩ := frz_ok h5
        refine ⟨F, s, k, ?_⟩
        rw [q1]
        intro v H1 av
        have a1 := av.data z1
        refine ⟨F, s1, a1.ok, ?_⟩
        rw [q2]
        intro v2 H2 av2
        have a2 := av2.data z2
        refine T_two (F := F) h7 e2 a2.ok fun ps H' k' f' r' => ?_
        obtain ⟨bk, rfl, sq⟩ := (Rp.mono (a2.fr.trans f').le _ _ a1.rp).key e1
        exact w _ H' k' ((a1.fr.trans a2.fr).trans f') (.cons sq (Rp.mono f'.le _ _ a2.rp) r')
theorem E_dtk {keys : List (Option Expr)} {l : List Expr} {xs : Exs} (hu : X.A.units + 65 < cLine) (ha : keys.all (·.isSome) = true) (hl : keys.length = l.length) (h0 : keys ≠ []) (hv : PEs X EC W C xs (interE keys l)) :
    PE X (.Dict keys l pos) (tE X.K EC W (noErr ((evDs C xs).bind fun ds => lift (dtkD ds)))) := by
  have key : ∀ {es : Exs} {keys : List (Option Expr)} {l : List Expr} {s s' : S} {ds : List D} {m : Tb2}, keys.all (·.isSome) = true → keys.length = l.length → PEs X EC W C es (interE keys l) → evDs C es s = .ok ds s' → twoT ds = some m → keys.length = m.length := by
    intro es keys
    induction keys generalizing es with
    | nil =>
      intro l s s' ds m _ hl h h1 h2
      cases l with
      | cons a b => cases hl
      | nil =>
        have h : PEs X EC W C es [] := h
        cases es with
        | cons a b => exact h.elim
        | nil =>
          cases (show R.ok [] s = .ok ds s' from h1)
          cases (show some [] = some m from h2)
          rfl
    | cons k0 keys ih =>
      intro l s s' ds m hk hl h h1 h2
      cases l with
      | nil => cases hl
      | cons v l =>
        cases k0 with
        | none => simp at hk
        | some k0 =>
          have h : PEs X EC W C es (k0 :: v :: interE keys l) := h
          cases es with
          | nil => exact h.elim
          | cons ek es =>
            cases es with
            | nil => exact h.2.elim
            | cons ev es =>
              obtain ⟨d, s1, h3, h4⟩ := M.bind_ok (show ((frz (evE C ek)).bind fun d => (evDs C (.cons ev es)).bind fun ds => M.pure (d :: ds)) s = .ok ds s' from h1)
              obtain ⟨dr, s2, h5, h6⟩ := M.bind_ok h4
              cases (show R.ok (d :: dr) s2 = .ok ds s' from h6)
              obtain ⟨d2, s3, h7, h8⟩ := M.bind_ok (show ((frz (evE C ev)).bind fun d => (evDs C es).bind fun ds => M.pure (d :: ds)) s1 = .ok dr s' from h5)
              obtain ⟨dq, s4, h9, h10⟩ := M.bind_ok h8
              cases (show R.ok (d2 :: dq) s4 = .ok dr s' from h10)
              have h2 : (match tkD d, twoT dq with
                | some ns, some m => some ((ns, d2) :: m)
                | _, _ => none) = some m := h2
              cases e1 : tkD d with
              | none => rw [e1] at h2; cases h2
              | some ns =>
                cases e2 : twoT dq with
                | none => rw [e1, e2] at h2; cases h2
                | some q =>
                  rw [e1, e2] at h2
                  cases h2
                  exact congrArg Nat.succ (ih (by simpa using hk) (by simpa using hl) h.2.2 h9 e2)
  by_cases h15 : keys.length ≤ 15
  · refine peW (pe_dispE hu (pps2 ha hl hv) ha hl h0 h15) fun σ H Q ⟨F, s, k, w⟩ => ?_
    intro p o hp dd
    cases q : ((evDs C xs).bind fun ds => lift (dtkD ds)) s with
    | bad =>
      unfold noErr at w
      rw [q] at w
      exact w.elim
    | err e s' =>
      unfold noErr at w
      rw [q] at w
      exact w.elim
    | ok r s' =>
      unfold noErr at w
      rw [q] at w
      have w : ∀ v H', AftS X.K F s σ H r s' v H' → Q v H' := w
      obtain ⟨ds, s1, e1, e2⟩ := M.bind_ok q
      unfold dtkD at e2
      cases e3 : twoT ds with
      | none => rw [e3] at e2; cases e2
      | some m =>
        rw [e3] at e2
        by_cases c : m.length ≤ 15 ∧ m ≠ []
        · have e2 : lift (if m.length ≤ 15 ∧ m ≠ [] then some (Sl.ow (.dic (unT (mkT [] m)))) else none) s1 = .ok r s' := e2
          rw [if_pos c] at e2
          cases (show R.ok (Sl.ow (.dic (unT (mkT [] m)))) s1 = .ok r s' from e2)
          obtain ⟨ka, fa⟩ := k.newOw (o := ExO p o) (.ex dd) hp
          refine T_two (F := Ad F p) e1 e3 ka fun ps H2 k2 f2 r2 => ?_
          have hp2 : H2 p = some (ExO p o) := (f2.keep p (.inr rfl)).trans upd_same
          refine ⟨hp2, Nn (Ad F p) s' σ, m, r2, fun o' ys dd' rr => ?_⟩
          have nD : Nn (Ad F p) s' σ p := .inl (.inr rfl)
          have l7 : Le (Hid (Nn (Ad F p) s' σ) H2) (Hid (Nn (Ad F p) s' σ) (upd H2 p (ExO p o'))) := fun b u _ z => by
            obtain ⟨a, z⟩ := hid_iff.mp z
            have nb : b ≠ p := fun y => a (y ▸ nD)
            exact hid_iff.mpr ⟨a, by rw [upd_ne nb]; exact z⟩
          have k7 : StOk X.K (Ad F p) s' σ (upd H2 p (ExO p o')) := by
            refine ⟨k2.len, fun j d' e => ?_, fun j o' e => ?_, k2.inj, k2.ap, fun b z => ?_, ?_⟩
            · obtain ⟨v, q1, q2⟩ := k2.sh j d' e
              exact ⟨v, q1, Rp.mono l7 _ _ q2⟩
            · obtain ⟨p', q1, q2⟩ := k2.ow j o' e
              exact ⟨p', q1, q2.mono (upd_ne fun y => k2.ap p' ⟨j, o', e, q1⟩ (.inr y)) l7⟩
            · by_cases hb : b = p
              · rw [hb]
                exact ⟨_, upd_same, .ex dd'⟩
              · rw [upd_ne hb]
                exact k2.dom b z
            · exact k2.tb.put hp2 (.ex dd)
          have ff := fa.trans (⟨fun b z => f2.keep b (.inl z), f2.imm⟩ : Fr F _ _ _ _)
          refine w _ _ ⟨p, rfl, k7, ⟨fun b z => ?_, fun b u n tb z => ?_⟩, fun z => k.free hp (.inl z), .inl ⟨o', ys, upd_same, dd', (rr.mono l7).toE⟩⟩
          · have nb : b ≠ p := fun y => by
              obtain ⟨u, e, _⟩ := k.dom b z
              rw [y, hp] at e
              cases e
            rw [upd_ne nb]
            exact ff.keep b z
          · obtain ⟨z1, n1⟩ := ff.imm b u n tb z
            have nb : b ≠ p := fun y => n1 (y ▸ nD)
            exact ⟨by rw [upd_ne nb]; exact z1, n1⟩
        · have e2 : lift (if m.length ≤ 15 ∧ m ≠ [] then some (Sl.ow (.dic (unT (mkT [] m)))) else none) s1 = .ok r s' := e2
          rw [if_neg c] at e2
          cases e2
  · refine ⟨fun pins s σ H Q I ⟨F, t, k, w⟩ => ?_⟩
    exfalso
    unfold noErr at w
    cases q : ((evDs C xs).bind fun ds => lift (dtkD ds)) t with
    | bad => rw [q] at w; exact w.elim
    | err e s' => rw [q] at w; exact w.elim
    | ok r s' =>
      obtain ⟨ds, s1, e1, e2⟩ := M.bind_ok q
      unfold dtkD at e2
      cases e3 : twoT ds with
      | none => rw [e3] at e2; cases e2
      | some m =>
        rw [e3] at e2
        have e2 : lift (if m.length ≤ 15 ∧ m ≠ [] then some (Sl.ow (.dic (unT (mkT [] m)))) else none) s1 = .ok r s' := e2
        rw [if_neg fun z => h15 (by rw [key ha hl hv e1 e3]; exact z.1)] at e2
        cases e2
theorem E_get {oa : M Op} {ap cp : Pos} (hu : X.A.units + 65 < cLine) (ha : PE X a (tO X.K EC W oa)) (hb : PE X b (tE X.K EC W mb)) (hc : PE X c (tE X.K EC W mc)) (nb : noStar b = true) (nc : noStar c = true) (hat : attributeBase a "get" X.env (eval a X.env) = eval a X.env) (hl : (ap.endLine == cp.line) = true) :
    PE X (.Call (.Attribute a "get" ap) [b, c] [] cp) (tE X.K EC W (oa.bind fun x => (resO x).bind fun d0 => (lift (dctD d0)).bind fun _ => (frz mb).bind fun e => (frz mc).bind fun g => (resO x).bind fun d => lift ((dgetD d e g).map .sh))) :=
  peW (pe_getE (apos := ap) (cpos := cp) hu ha (pe_frz hb) (pe_frz hc) ⟨hat, few_two nb nc, hl, by rw [star_cons nb, star_cons nc] <;> rfl⟩) fun σ H Q ⟨F, s, k, w⟩ => ⟨F, s, k, w.bind.mono fun x s1 hx v H1 ax => by
    obtain ⟨k1, f1⟩ := ax.ok k
    obtain ⟨d0, e0, hx1⟩ := (hx.on f1).res
    obtain ⟨_, e00, hx2⟩ := hx1.bind.lift
    clear hx hx1
    have rd0 := (ax.use k1 Fr.refl e0).2
    cases d0 with
    | dict kvs0 =>
      obtain ⟨m0, hm0, _⟩ := Option.map_eq_some_iff.mp (show (ktD kvs0).map _ = _ from e00)
      obtain ⟨p, o, xs, rfl, hp, dd, r0⟩ := rd0.dct hm0
      refine ⟨p, o, xs, rfl, hp, dd, F, s1, k1, hx2.bind.mono fun y s2 hy u H2 ay => ?_⟩
      refine ⟨F, s2, ay.ok, ((hy.on ay.fr).bind).mono fun z s3 hz u3 H3 az => ?_⟩
      obtain ⟨d, e1, hz⟩ := (hz.on az.fr).res
      obtain ⟨r, e3, hz⟩ := hz.lift
      obtain ⟨q, e4, rfl⟩ := Option.map_eq_some_iff.mp e3
      have rd := (ax.use az.ok (ay.fr.trans az.fr) e1).2
      cases d with
      | dict kvs =>
        have e4 : (match tkD y, ktD kvs with
          | some ns, some m => some ((lkT m ns).getD z)
          | _, _ => none) = some q := e4
        cases h1 : tkD y with
        | none => rw [h1] at e4; cases e4
        | some ns =>
          cases h2 : ktD kvs with
          | none => rw [h1, h2] at e4; cases e4
          | some m =>
            rw [h1, h2] at e4
            cases e4
            obtain ⟨p', o', xs', ep, hp', dd', r'⟩ := rd.dct h2
            cases ep
            obtain ⟨bk, rfl, sq⟩ := (Rp.mono az.fr.le _ _ ay.rp).key h1
            exact ⟨Nn F s3 σ, o', xs', m, bk, ns, z, hp', dd', r', rfl, hid_le.sqT sq, az.rp, fun v' rv => hz v' H3 ⟨az.ok, (f1.trans ay.fr).trans az.fr, rv⟩⟩
      | _ => cases e4
    | _ => cases e00⟩
end
end Hg
set_option Elab.async false
set_option linter.all false
set_option maxRecDepth 100000
set_option maxHeartbeats 400000
/-! Every expression runs as its term says. -/
namespace Hg
open PySem PySem.Spec PyProof.Rows L2 RZ RT
def plainE : Expr → Bool
  | .Starred .. => false
  | .Slice .. => false
  | .Set .. => false
  | _ => true
section
variable {a : Expr}
theorem plain_star (h : plainE a = true) : noStar a = true := by cases a <;> first | rfl | (cases h)
theorem plain_ix (h : plainE a = true) : PlainIx a := by
  intro o i
  cases a <;> first | rfl | (cases h)
theorem plain_fold (h : plainE a = true) (env : Env) (x : Value) : foldedSetIterable a env x = pure x := by
  cases a <;> first | rfl | (cases h)
theorem plain_in (h : plainE a = true) (op : CmpOp) : behindInMarks op a = false := by
  cases a <;> first | rfl | (cases h)
end
/-- a lambda may be made here -/
def LamHd (X : Cx) : Prop := ∃ (c t : Addr), LamX.TabB X.base X.mg c t ∧ X.env.code = .ref c ∧ (t, X.env.qual ++ "<lambda>") ∈ TbL X.K ∧ ∀ p ∈ TbL X.K, p.1 = t → p.2 = X.env.qual ++ "<lambda>"
/-- nothing but a table stands there -/
def Np (H : Hp) (p : Addr) : Prop := ∀ o, NT o → H p ≠ some o
/-- what a refusal's teller makes of a lambda's run -/
def TRef (K : PySem.W.Frag) (EC : Nat → Addr) (ks : List Nat) : (XK → Hp → VK → Prop) → Hp → VK → Prop := fun tl H Q =>
  tl (fun cls d H' => ∃ (c k : Nat), cls = .ref (EC c) ∧ d = none ∧ ks[c]? = some k ∧ Tb K H' ∧ ∀ H'' p, LamX.ExtN H' H'' → Tb K H'' → Np H' p → H'' p = some (.lst [.int k]) → Q (.ref p) H'') H fun _ H' => Tb K H' ∧ ∀ H'', LamX.ExtN H' H'' → Tb K H'' → Q .non H''
/-- a table of the module, by text -/
def TabAt (X : Cx) (g : Str) (tab : List (Str × Int)) : Prop := ∃ d es n, X.mg g = some (.ref d) ∧ KDict X.K X.w d es n ∧ ∀ z, ∃ r, PySem.W.nsIn X.K d z = some r ∧ match tab.lookup z with
  | some i => ∃ u, r = some u ∧ RelV (.int i) u
  | none => r = none
structure RefX (X : Cx) (EC : Nat → Addr) (ks : List Nat) (n : Str) (a : Str) (g : Addr) (pg : Arguments) (bg : List Stmt) (sg : Scope) (dV kV doc pm cdv ct oc : Value) (an od : Option Addr) (osl : Array (Option Value)) (Ng : List Str) : Prop where
  hm : X.mg n = some (.ref g)
  hk : PySem.W.keepIn X.K (.ref g) = true
  lk : X.K.lookup g = some ⟨oc, od, .func (PySem.W.fnOf n n pg bg sg dV kV doc pm an cdv ct), osl⟩
  hc : PySem.W.codeIn X.K cdv n = true
  hb : Binds X.K (PySem.W.fnOf n n pg bg sg dV kV doc pm an cdv ct) [a] []
  hS : FnScope Ng [a] sg
  hN : Ng[0]? = some a
  hv : Vis sg a
  hd : (a == ("__debug__" : Str)) = false
  hcd : (a == ("__classdict__" : Str)) = false
  hG : LamX.GivesTo X Ng n sg g cdv bg a (X.env.qual ++ "<lambda>") (TRef X.K EC ks)
def RefAt (X : Cx) (EC : Nat → Addr) (ks : List Nat) (n : Str) : Prop := ∃ a g pg bg sg dV kV doc pm cdv ct oc an od osl Ng, RefX X EC ks n a g pg bg sg dV kV doc pm cdv ct oc an od osl Ng
/-- where a piece of code stands -/
structure Ctx (EC : Nat → Addr) (C : Cal) (k : Nat) (X : Cx) (W : WX) (x : Sx) : Prop where
  sc : X.env.scope = x.sc
  nm : X.N = x.N
  kd : X.env.scope.kind = .function
  nd : X.N.Nodup
  calm : X.calm = true
  tk : Takes X W
  room : Room k X.A
  un : X.A.units + 65 < cLine
  free : ∀ n, x.free.contains n = true → X.mg n = none
  fn : ∀ f n, x.fn f = some n → FnAt X EC C k f n
  con : ∀ n d, C.con n = some d → ∃ v u, X.mg n = some u ∧ RelV v u ∧ ∀ H, Rp X.K H v d
  own : ∀ n, x.own n = true → X.fn n = true
  lam : x.lm = true → LamHd X
  rf : x.lm = true → ∀ run, C.lw = some run → ∀ r ks n, x.rf r = some ks → x.fn r = some n → RefAt X EC ks n
  lw : x.lm = true → ∀ run, C.lw = some run → ∃ j, k = j + 2 ∧ ∀ g m, x.fn g = some m → FnAt X EC (C.wr run) j g m
  tbl : ∀ g tab, x.tbs.contains (g, tab) = true → TabAt X g tab
def GoodE (EC : Nat → Addr) (C : Cal) (k : Nat) (e : Ex) : Prop := ∀ (X : Cx) (W : WX) (x : Sx) (a : Expr), Ctx EC C k X W x → chE x e a = true → plainE a = true ∧ PE X a (tE X.K EC W (evE C e)) ∧ PT X a (tBo X.K EC W (testM (evE C e)))
structure EsOk (EC : Nat → Addr) (C : Cal) (X : Cx) (W : WX) (es : Exs) (l : List Expr) : Prop where
  pl : l.all noStar = true
  ds : PA X l (tDs X.K EC W (evDs C es))
  os : PA X l (tOs X.K EC W (evOs C es))
  as : ∀ bs, PA X l (tAs X.K EC W (evAs C bs es))
  pw : PEs X EC W C es l
  tm : ∀ a, l = [a] → PE X a (tE X.K EC W (evT C es))
  an : ∀ a r pos, l = a :: r → PE X (.BoolOp .And l pos) (tBv X EC W (evAnd C es)) ∧ PW X (.BoolOp .And l pos) (tBo X.K EC W (evAnd C es))
  or : ∀ a r pos, l = a :: r → PE X (.BoolOp .Or l pos) (tBv X EC W (evOr C es)) ∧ PW X (.BoolOp .Or l pos) (tBo X.K EC W (evOr C es))
def GoodEs (EC : Nat → Addr) (C : Cal) (k : Nat) (es : Exs) : Prop := ∀ (X : Cx) (W : WX) (x : Sx) (l : List Expr), Ctx EC C k X W x → chEs x es l = true → EsOk EC C X W es l
def GoodS (EC : Nat → Addr) (C : Cal) (k : Nat) (sr : Src) : Prop := ∀ (X : Cx) (W : WX) (x : Sx) (t a : Expr), Ctx EC C k X W x → chS x sr t a = true → plainE a = true ∧ PI X t a (tSr X.K EC W (evSrc C sr))
def GoodT (EC : Nat → Addr) (C : Cal) (k : Nat) (tg : Tg) : Prop := ∀ (X : Cx) (W : WX) (x : Sx) (a : Expr), Ctx EC C k X W x → chT x tg a = true → noStar a = true ∧ PG X a (tPut X.K tg)
def GoodTs (EC : Nat → Addr) (C : Cal) (k : Nat) (ts : Tgs) : Prop := ∀ (X : Cx) (W : WX) (x : Sx) (l : List Expr), Ctx EC C k X W x → chTs x ts l = true → l.all noStar = true ∧ PGs X l (tPuts X.K ts)
section
variable {EC : Nat → Addr} {C : Cal} {k : Nat} {X : Cx} {W : WX} {x : Sx} {a : Expr} {n : Str} {i : Nat}
theorem okName_of (h : okName n = true) : (n == ("__debug__" : Str)) = false ∧ (n == ("__classdict__" : Str)) = false ∧ n ≠ "__name__" := by
  unfold okName at h
  simp only [Bool.and_eq_true, Bool.not_eq_true'] at h
  exact ⟨h.1.1, h.1.2, fun z => by rw [z] at h; exact absurd h.2 (by decide)⟩
theorem Ctx.name (c : Ctx EC C k X W x) {p : Pos} (h : x.var i n = true) : PE X (.Name n p) (tVar i) := by
  unfold Sx.var at h
  simp only [Bool.and_eq_true, decide_eq_true_eq] at h
  obtain ⟨⟨h1, h2⟩, h3⟩ := h
  obtain ⟨d1, d2, _⟩ := okName_of h3
  refine pe_var (by rw [c.nm]; exact h1) ?_ d1 d2
  rw [c.sc]
  unfold visB at h2
  split at h2 <;> first | (exact .inl (by assumption)) | (exact .inr (.inl (by assumption))) | (exact .inr (.inr (by assumption))) | (cases h2)
theorem Ctx.gl (c : Ctx EC C k X W x) (h : x.glo n = true) : Gl X n ∧ (n == ("__debug__" : Str)) = false ∧ n ≠ "__name__" := by
  unfold Sx.glo at h
  simp only [Bool.and_eq_true] at h
  obtain ⟨d1, _, d3⟩ := okName_of h.2
  refine ⟨?_, d1, d3⟩
  show X.env.scope.names.lookup n = _
  rw [c.sc]
  have h1 := h.1
  unfold glB at h1
  split at h1
  · assumption
  · cases h1
theorem Ctx.bl (c : Ctx EC C k X W x) (h : x.blt n = true) : Gl X n ∧ X.mg n = none := by
  unfold Sx.blt at h
  rw [Bool.and_eq_true] at h
  exact ⟨(c.gl h.1).1, c.free n h.2⟩
theorem Ctx.blkOk (c : Ctx EC C k X W x) {scope : Scope} {own : List Nat} (h : blkC x.N x.sc scope (ownP x.N own) = true) : BlkOk X.N X.env.scope scope (ownP X.N own) := by
  rw [c.nm, c.sc]
  exact blkOk_by h
theorem Ctx.blk (c : Ctx EC C k X W x) {scope : Scope} {own : List Nat} (h : BlkOk X.N X.env.scope scope (ownP X.N own)) (s : Shared) (H : Hp) (A : Addr) (cl : List (Str × Addr)) (fp : List Addr) :
    Ctx EC C k (X.blk s H scope (compEnvC scope cl A X.env) fp) WF (x.blk scope) := by
  refine ⟨?_, c.nm, h.kind, c.nd, c.calm, takes0, c.room, c.un, c.free, c.fn, c.con, fun n h => h, (fun z => nomatch z), (fun z => nomatch z), (fun z => nomatch z), c.tbl⟩
  show relS scope X.env.scope = relS scope x.sc
  rw [c.sc]
theorem opnd_ok {e : Ex} (h : GoodE EC C k e) (c : Ctx EC C k X W x) (q : chE x e a = true) : PE X a (tO X.K EC W (opnd e (evE C e))) := by
  have gen := (h X W x a c q).2.1
  cases e with
  | var i =>
    clear gen
    unfold chE at q
    split at q
    · exact peO_var (c.name q)
    · cases q
  | _ => exact peO_of gen
theorem arg_ok {e : Ex} (h : GoodE EC C k e) (c : Ctx EC C k X W x) (q : chE x e a = true) (b : Bool) : PE X a (tAg X.K EC W (argM b e (evE C e))) := by
  cases b with
  | false => exact G_d (h X W x a c q).2.1
  | true =>
    have no : ∀ {m : M Ag}, m = bad → PE X a (tAg X.K EC W m) := fun e => ⟨fun pins s σ H Q I ⟨F, t, k, w⟩ => by
      rw [e] at w
      exact w.elim⟩
    cases e with
    | var i =>
      clear no
      unfold chE at q
      split at q
      · exact G_io (c.name q)
      · cases q
    | _ => exact no rfl
/-- as a test: what is no test by its form -/
theorem pt_plain {m : M Sl} (h : PE X a (tE X.K EC W m)) (he : ∀ whole, isTrue a X.env whole = (do let v ← whole; standAt a.pos; holding [v] (truthy v))) : PT X a (tBo X.K EC W (testM m)) := P_val h he
/-! ### targets -/
theorem g_name : GoodT EC C k (.name i) := fun X W x a c h => by
  unfold chT at h
  split at h
  · rename_i n p
    refine ⟨rfl, T_name ?_⟩
    unfold Sx.tgt at h
    simp only [Bool.and_eq_true, decide_eq_true_eq] at h
    obtain ⟨⟨h1, h2⟩, h3⟩ := h
    have hN : X.N[i]? = some n := by rw [c.nm]; exact h1
    rw [← c.sc] at h2
    split at h2
    · rename_i hl
      exact pg_name c.nd hN (.inl hl) (.inr hl)
    · rename_i hl
      exact pg_name c.nd hN (.inr hl) (.inl (c.own n h2))
    · cases h2
  · cases h
theorem g_tup {ts : Tgs} (ih : GoodTs EC C k ts) : GoodT EC C k (.tup ts) := fun X W x a c h => by
  unfold chT at h
  split at h
  · obtain ⟨n, g⟩ := ih X W x _ c h
    exact ⟨rfl, T_tup c.calm g n h⟩
  · cases h
theorem g_nil : GoodTs EC C k .nil := fun X W x l c h => by
  unfold chTs at h
  split at h
  · exact ⟨rfl, T_nil⟩
  · cases h
theorem g_cons {t : Tg} {ts : Tgs} (h1 : GoodT EC C k t) (h2 : GoodTs EC C k ts) : GoodTs EC C k (.cons t ts) := fun X W x l c h => by
  unfold chTs at h
  split at h
  · rw [Bool.and_eq_true] at h
    obtain ⟨n1, g1⟩ := h1 X W x _ c h.1
    obtain ⟨n2, g2⟩ := h2 X W x _ c h.2
    exact ⟨by rw [List.all_cons, n1, n2] <;> rfl, T_cons n1 g1 g2⟩
  · cases h
/-! ### expressions -/
theorem s_var : GoodE EC C k (.var i) := fun X W x a c h => by
  unfold chE at h
  split at h
  · rename_i n p
    have z := peE_var (EC := EC) (W := W) (c.name (p := p) h)
    exact ⟨rfl, z, pt_plain z fun _ => rfl⟩
  · cases h
theorem s_con {v : V} {d : D} {e : Ex} (hp : plainE a = true) (h : PE X a (tC v)) (r : ∀ H, Rp X.K H v d) (he : evE C e = M.pure (.sh d)) (ht : ∀ whole, isTrue a X.env whole = (do let v ← whole; standAt a.pos; holding [v] (truthy v))) :
    plainE a = true ∧ PE X a (tE X.K EC W (evE C e)) ∧ PT X a (tBo X.K EC W (testM (evE C e))) := by
  have z := pe_con (EC := EC) (W := W) h r
  rw [← he] at z
  exact ⟨hp, z, pt_plain z ht⟩
theorem s_int {i : Int} : GoodE EC C k (.int i) := fun X W x a c h => by
  unfold chE at h
  split at h
  · cases of_decide_eq_true h
    exact s_con rfl pe_int (fun _ => .int _) rfl fun _ => rfl
  · cases h
theorem s_str {i : Str} : GoodE EC C k (.str i) := fun X W x a c h => by
  unfold chE at h
  split at h
  · cases of_decide_eq_true h
    exact s_con rfl pe_str (fun _ => .str _) rfl fun _ => rfl
  · cases h
theorem s_bl {i : Bool} : GoodE EC C k (.bl i) := fun X W x a c h => by
  unfold chE at h
  split at h
  · cases of_decide_eq_true h
    exact s_con rfl pe_bl (fun _ => .bl _) rfl fun _ => rfl
  · cases h
theorem s_non : GoodE EC C k .non := fun X W x a c h => by
  unfold chE at h
  split at h
  · exact s_con rfl pe_non (fun _ => .non) rfl fun _ => rfl
  · cases h
theorem s_glo {g : Str} : GoodE EC C k (.glo g) := fun X W x a c h => by
  unfold chE at h
  split at h
  · rename_i n p
    rw [Bool.and_eq_true] at h
    cases of_decide_eq_true h.1
    cases q : C.con g with
    | none =>
      have e : evE C (.glo g) = bad := by
        rw [evE, q]
        rfl
      have z : PE X (.Name g p) (tE X.K EC W (evE C (.glo g))) := ⟨fun pins s σ H Q I ⟨F, t, k, w⟩ => by
        rw [e] at w
        exact w.elim⟩
      exact ⟨rfl, z, pt_plain z fun _ => rfl⟩
    | some d =>
      obtain ⟨v, u, h1, h2, h3⟩ := c.con g d q
      obtain ⟨g1, g2, _⟩ := c.gl h.2
      exact s_con rfl (pe_glob g1 h1 h2 g2) h3 (by rw [evE, q] <;> rfl) fun _ => rfl
  · cases h
theorem s_bin {op : Operator} {e1 e2 : Ex} (h1 : GoodE EC C k e1) (h2 : GoodE EC C k e2) : GoodE EC C k (.bin op e1 e2) := fun X W x a c h => by
  unfold chE at h
  split at h
  · simp only [Bool.and_eq_true, decide_eq_true_eq] at h
    obtain ⟨⟨rfl, q1⟩, q2⟩ := h
    have z := E_bin (EC := EC) (W := W) (pos := by assumption) op (opnd_ok h1 c q1) (opnd_ok h2 c q2)
    exact ⟨rfl, z, pt_plain z fun _ => rfl⟩
  · cases h
theorem s_neg {e1 : Ex} (h1 : GoodE EC C k e1) : GoodE EC C k (.neg e1) := fun X W x a c h => by
  unfold chE at h
  split at h
  · simp only [Bool.and_eq_true, decide_eq_true_eq] at h
    obtain ⟨rfl, q1⟩ := h
    have z := E_neg (EC := EC) (W := W) (pos := by assumption) (h1 X W x _ c q1).2.1
    exact ⟨rfl, z, pt_plain z fun _ => rfl⟩
  · cases h
theorem s_cmp {op : CmpOp} {e1 e2 : Ex} (h1 : GoodE EC C k e1) (h2 : GoodE EC C k e2) : GoodE EC C k (.cmp op e1 e2) := fun X W x a c h => by
  unfold chE at h
  split at h
  · simp only [Bool.and_eq_true, decide_eq_true_eq] at h
    obtain ⟨⟨rfl, q1⟩, q2⟩ := h
    have p2 := (h2 X W x _ c q2).1
    exact ⟨rfl, E_cmp c.un op (opnd_ok h1 c q1) (opnd_ok h2 c q2) (plain_in p2 _), P_cmp c.un op (opnd_ok h1 c q1) (opnd_ok h2 c q2) (plain_in p2 _)⟩
  · cases h
theorem s_chain {o p : CmpOp} {e1 e2 e3 : Ex} (h1 : GoodE EC C k e1) (h2 : GoodE EC C k e2) (h3 : GoodE EC C k e3) : GoodE EC C k (.chain o p e1 e2 e3) := fun X W x a c h => by
  unfold chE at h
  split at h
  · simp only [Bool.and_eq_true, decide_eq_true_eq] at h
    obtain ⟨⟨⟨⟨rfl, rfl⟩, q1⟩, q2⟩, q3⟩ := h
    have p3 := (h3 X W x _ c q3).1
    have hm : ∀ m, lastMarks [o, p] [m, _] = false := fun _ => plain_in p3 p
    exact ⟨rfl, E_chain c.un o p (h1 X W x _ c q1).2.1 (h2 X W x _ c q2).2.1 (h3 X W x _ c q3).2.1 (hm _), P_chain c.un o p (h1 X W x _ c q1).2.1 (h2 X W x _ c q2).2.1 (h3 X W x _ c q3).2.1 (hm _)⟩
  · cases h
theorem s_not {e1 : Ex} (h1 : GoodE EC C k e1) : GoodE EC C k (.not e1) := fun X W x a c h => by
  unfold chE at h
  split at h
  · simp only [Bool.and_eq_true, decide_eq_true_eq] at h
    obtain ⟨rfl, q1⟩ := h
    obtain ⟨_, v, t⟩ := h1 X W x _ c q1
    exact ⟨rfl, E_not t v, P_not t⟩
  · cases h
theorem s_ife {e1 e2 e3 : Ex} (h1 : GoodE EC C k e1) (h2 : GoodE EC C k e2) (h3 : GoodE EC C k e3) : GoodE EC C k (.ife e1 e2 e3) := fun X W x a c h => by
  unfold chE at h
  split at h
  · simp only [Bool.and_eq_true] at h
    obtain ⟨⟨q1, q2⟩, q3⟩ := h
    obtain ⟨_, v2, t2⟩ := h2 X W x _ c q2
    obtain ⟨_, v3, t3⟩ := h3 X W x _ c q3
    have t1 := (h1 X W x _ c q1).2.2
    exact ⟨rfl, E_ife t1 v2 v3, P_ife t1 t2 t3 fun _ _ _ a b c => pt_ife a b c⟩
  · cases h
theorem s_and {es : Exs} (h1 : GoodEs EC C k es) : GoodE EC C k (.and es) := fun X W x a c h => by
  unfold chE at h
  split at h
  · simp only [Bool.and_eq_true, decide_eq_true_eq] at h
    obtain ⟨rfl, q⟩ := h
    obtain ⟨v, t⟩ := (h1 X W x _ c q).an _ _ (by assumption) rfl
    refine ⟨rfl, E_ofB v fun σ H Q w => w, ?_⟩
    rw [evE, testB]
    exact t.pt
  · cases h
theorem s_or {es : Exs} (h1 : GoodEs EC C k es) : GoodE EC C k (.or es) := fun X W x a c h => by
  unfold chE at h
  split at h
  · simp only [Bool.and_eq_true, decide_eq_true_eq] at h
    obtain ⟨rfl, q⟩ := h
    obtain ⟨v, t⟩ := (h1 X W x _ c q).or _ _ (by assumption) rfl
    refine ⟨rfl, E_ofB v fun σ H Q w => w, ?_⟩
    rw [evE, testB]
    exact t.pt
  · cases h
theorem s_orv {e1 e2 : Ex} (h1 : GoodE EC C k e1) (h2 : GoodE EC C k e2) : GoodE EC C k (.orv e1 e2) := fun X W x a c h => by
  unfold chE at h
  split at h
  · rw [Bool.and_eq_true, Bool.and_eq_true] at h
    obtain ⟨p2, v2, t2⟩ := h2 X W x _ c h.2
    obtain ⟨p1, v1, _⟩ := h1 X W x _ c h.1.2
    exact ⟨rfl, E_orv v1 v2, P_orv h.1.1 v1 t2⟩
  · cases h
theorem s_dix {e1 e2 : Ex} (h1 : GoodE EC C k e1) (h2 : GoodE EC C k e2) : GoodE EC C k (.dix e1 e2) := fun X W x a c h => by
  unfold chE at h
  split at h
  · rw [Bool.and_eq_true] at h
    obtain ⟨p2, v2, _⟩ := h2 X W x _ c h.2
    have z := E_dix (EC := EC) (W := W) (pos := by assumption) (Nat.lt_of_le_of_lt (by omega) c.un) (opnd_ok h1 c h.1) v2 (fun o i => plain_ix p2 o i)
    exact ⟨rfl, z, pt_plain z fun _ => rfl⟩
  · cases h
theorem s_dic {ks vs : Exs} (h1 : GoodEs EC C k vs) : GoodE EC C k (.dic ks vs) := fun X W x a c h => by
  unfold chE at h
  split at h
  · rename_i keys l p
    rw [Bool.and_eq_true, Bool.and_eq_true] at h
    obtain ⟨⟨q1, q2⟩, q3⟩ := h
    cases e : keysE ks with
    | none => rw [e] at q1; cases q1
    | some ys =>
      rw [e] at q1
      have z := E_dic (pos := p) q1 (h1 X W x _ c q2).pw (of_decide_eq_true q3)
      have e2 : evE C (.dic ks vs) = noErr ((evDs C vs).bind fun ds => lift (dicD ys ds)) := by
        rw [evE, e]
      rw [e2]
      exact ⟨rfl, z, pt_plain z fun _ => rfl⟩
  · cases h
theorem s_ix {e1 e2 : Ex} (h1 : GoodE EC C k e1) (h2 : GoodE EC C k e2) : GoodE EC C k (.ix e1 e2) := fun X W x a c h => by
  unfold chE at h
  split at h
  · rw [Bool.and_eq_true] at h
    obtain ⟨p2, v2, _⟩ := h2 X W x _ c h.2
    have z := E_ix (EC := EC) (W := W) (pos := by assumption) c.un (opnd_ok h1 c h.1) v2 (plain_ix p2)
    exact ⟨rfl, z, pt_plain z fun _ => rfl⟩
  · cases h
theorem part_ok {e : Ex} (h : GoodE EC C k e) (c : Ctx EC C k X W x) {o : Option Expr} (q : (match o with
      | none => isNon e
      | some e1 => !isNon e && chE x e e1) = true) : PO X o (tOi X.K EC W (partM e (evE C e))) := by
  cases o with
  | none => exact O_none q
  | some a =>
    have q : (!isNon e && chE x e a) = true := q
    rw [Bool.and_eq_true] at q
    exact O_some (by simpa using q.1) (h X W x a c q.2).2.1
theorem s_sl {e1 e2 e3 : Ex} (h1 : GoodE EC C k e1) (h2 : GoodE EC C k e2) (h3 : GoodE EC C k e3) : GoodE EC C k (.sl e1 e2 e3) := fun X W x a c h => by
  unfold chE at h
  split at h
  · rename_i l l1 l2 l3 p1 p2
    rw [Bool.and_eq_true, Bool.and_eq_true, Bool.and_eq_true] at h
    obtain ⟨⟨⟨n3, q1⟩, q2⟩, q3⟩ := h
    cases l3 with
    | some z => cases n3
    | none =>
      have z := E_sl (EC := EC) (W := W) (pos := p2) (p2 := p1) (opnd_ok h1 c q1) (part_ok h2 c (o := l1) (by cases l1 <;> exact q2)) (part_ok h3 c (o := l2) (by cases l2 <;> exact q3))
      exact ⟨rfl, z, pt_plain z fun _ => rfl⟩
  · cases h
theorem s_tup {es : Exs} (h1 : GoodEs EC C k es) : GoodE EC C k (.tup es) := fun X W x a c h => by
  unfold chE at h
  split at h
  · have z := E_tup (EC := EC) (W := W) (pos := by assumption) (k1 := by assumption) (h1 X W x _ c h).ds
    exact ⟨rfl, z, pt_plain z fun _ => rfl⟩
  · cases h
theorem s_lst {es : Exs} (h1 : GoodEs EC C k es) : GoodE EC C k (.lst es) := fun X W x a c h => by
  unfold chE at h
  split at h
  · have z := E_lst (EC := EC) (W := W) (pos := by assumption) (h1 X W x _ c h).ds
    exact ⟨rfl, z, pt_plain z fun _ => rfl⟩
  · cases h
theorem kw_nil {kw : List Keyword} (h : kw.isEmpty = true) : kw = [] := by
  cases kw with
  | nil => rfl
  | cons a b => cases h
end
end Hg
set_option Elab.async false
set_option linter.all false
set_option maxRecDepth 100000
set_option maxHeartbeats 400000
/-! try: .. except x as n: y = n, and what follows while the error is known. -/
namespace Hg
open PySem PySem.Spec PyProof.Rows L2 RZ RT
section
variable {X : Cx} {pins : List (Addr × Obj)} {σ : L2.St} {H : Hp} {s : Shared}
theorem Inv.keepPin {a : Addr} {pn : List (Addr × Obj)} (I : L2.Inv (X.suite a pn) [] σ H s) (ok : X.Ok) : L2.Inv (X.tr pn X.xe) [] σ H s :=
  ⟨ok.toTry _ _, I.os, I.bare, I.base, I.loc, I.cell, I.free, I.freeC, I.pin, I.hok, I.len⟩
theorem Inv.dropPin {q : Addr × Obj} (I : L2.Inv (X.tr (q :: (X.pn ++ pins)) X.xe) [] σ H s) (ok : X.Ok) : L2.Inv X pins σ H s :=
  ⟨ok, I.os, I.bare, I.base, I.loc, I.cell, I.free, I.freeC, fun p hp => I.pin p (by rw [List.append_nil]; exact List.mem_cons_of_mem _ hp), I.hok, I.len⟩
/-- what is wished of an error of the body -/
def wE (K : PySem.W.Frag) (c : Value) (n i j : Nat) (t1 : Addr → Value → Option Addr → TS) (Wout : WX) (D : Ends) : WX := fun cls d σ H => σ.length = n →
  ∃ b, PySem.W.exmOne K cls c = some b ∧ (b = true → ∀ a, H a = none → t1 a cls d D (((σ.set i (some (.ref a))).set j (some (.ref a))).set i none) H) ∧ (b = false → Wout cls d σ H)
theorem pss_tryE {x n y : Str} {c : Value} {i j : Nat} {body rest : List Stmt} {np yp np2 ap pp pos : Pos} {tb : WX → TS} {t0 : TS} {t1 : Addr → Value → Option Addr → TS} {Wout : WX}
    (hs : X.stack = X.env :: X.outer) (hf : X.env.frame = some X.env.locals) (hN : X.N.Nodup) (hi : X.N[i]? = some n) (hln : X.env.kindOf n = some .local) (hj : X.N[j]? = some y) (hly : Loc X.env.scope y) (hfy : X.fn y = true)
    (hdn : (n == ("__debug__" : Str)) = false) (hdc : (n == ("__classdict__" : Str)) = false) (hc : Names X x c) (tk : Takes X Wout)
    (hb : ∀ (W : WX) (pn : List (Addr × Obj)) (xe : Value → Shared → Prop), Takes (X.tr pn xe) W → PassesOwn (model X.prog X.w) X.A X.env xe → PSs (X.tr pn xe) body (tb W))
    (h0 : PSs X rest t0) (h1 : ∀ (a : Addr) (oe : Obj) (cls : Value) (d : Option Addr) (pn : List (Addr × Obj)), Zc cls d oe → (∃ vs, oe.data = .fields vs) → PSs (X.tr ((a, oe) :: pn) X.xe) rest (t1 a cls d)) :
    PSs X (.Try body [.ExceptHandler (some (.Name x np)) (some n) [.Assign [.Name y yp] (.Name n np2) ap] pp] [] [] pos :: rest) (fun D σ H => tb (wE X.K c X.N.length i j t1 Wout D) { D with nx := t0 D } σ H) := by
  refine ⟨fun pins s σ H D I h => wpAny_execs_cons ?_⟩
  have ok := I.ok
  have hfr : X.A.frames = some (X.env :: X.outer) := by rw [ok.frames, hs]
  -- what is wished behind the statement
  let R : Flow → Shared → Prop := fun f s' => match f with
    | .next => wpAny (model X.prog X.w) X.A (execs rest X.env) (SP X pins D) X.xe s'
    | f => SP X pins D f s'
  refine wpAny_mono (Q := R) (wpAny_Try_except ?_) (fun f s1 q => ?_) fun _ _ z => z
  case refine_2 => cases f <;> exact q
  refine wpAny_mono ((hb (wE X.K c X.N.length i j t1 Wout D) (X.pn ++ pins) (fun e s2 => wpAny (model X.prog X.w) X.A (noteFrame e X.env) (fun _ s3 => wpAny (model X.prog X.w) X.A (setFlight e none) (fun _ s4 =>
    wpAny (model X.prog X.w) X.A (handleBy e X.env [.ExceptHandler (some (.Name x np)) (some n) [.Assign [.Name y yp] (.Name n np2) ap] pp]) R X.xe s4) X.xe s3) X.xe s2) (fun u s' xx => ?_) PassesOwn.looking).run [] s σ H _ (I.toTry _) h) (fun f s1 hsp => ?_) (fun e s1 he => he)
  · obtain ⟨a, B, sI, pins', σ', H', cls, d, rfl, J', nb, up, sky, na, os, ag, wE1⟩ := xx
    have J : L2.Inv X pins σ' H' sI := J'.ofTry ok
    obtain ⟨b, hb1, hyes, hno⟩ := wE1 J.len
    have sky2 : Sky B (X.env :: X.outer) a (Zc cls d) X.env.locals s'.heap := by rw [← hs]; exact sky
    show wpAny (model X.prog X.w) X.A (noteFrame (.ref a) X.env) _ _ _
    refine Sky.land Zc.steady hfr hf sky2 fun g3 fl3 up3 => ?_
    have J3 : L2.Inv X pins σ' H' { s' with heap := g3 } := J.landed nb fl3.1 (up.trans up3) os ag
    obtain ⟨o3, w3, he3, hz3, hd3⟩ := fl3.there
    have nfr : a ∉ frs (X.env :: X.outer) := fun hm => by
      obtain ⟨_, o', e', hnf⟩ := fl3.2.2.1.mem hm
      rw [he3] at e'
      cases e'
      exact hnf _ hd3
    have nL : a ≠ X.env.locals := fun z => nfr (List.mem_filterMap.mpr ⟨X.env, List.mem_cons_self, by rw [hf, z]⟩)
    have nF : a ∉ X.fs := fun hm => by
      obtain ⟨e, he, q⟩ := List.mem_filterMap.mp hm
      exact nfr (List.mem_filterMap.mpr ⟨e, List.mem_cons_of_mem _ he, q⟩)
    have S3 := J3.suite he3 hd3 na nL nF
    refine wpAny_handleBy_cons (codeAny_handlers_test ?_) (by intro q; cases q)
    have LT : PySem.W.Looks (model X.prog X.w) g3 (typeOf (.ref a)) cls := fun A Q E s k q => wpAny_typeOf_ref (k _ _ he3) (by rw [hz3.1]; exact q)
    have LM := PySem.W.exm_one (M := model X.prog X.w) (J3.kIn) LT hb1
    have ask : ∀ {Q : Value → Shared → Prop} {E : Value → Shared → Prop}, Q c { s' with heap := g3 } → wpAny (model X.prog X.w) (X.A.mark (some (.ref a))) (eval (.Name x np) X.env) Q E { s' with heap := g3 } := fun {Q E} q => by
      obtain ⟨hg, hdbg, hm | ⟨hm, hv, hnn⟩⟩ := hc
      · exact ld_glob (X := X.suite a ((a, o3) :: (X.pn ++ pins))) S3 hg hm q hdbg
      · exact ld_blt (X := X.suite a ((a, o3) :: (X.pn ++ pins))) S3 hg hm hv q hnn hdbg
    refine ask (LM.here ?_)
    cases b with
    | true =>
      refine codeAny_handlers_suite_as ?_
      refine HandSPX.lands_againZ fl3 fun g4 fl4 up4 => ?_
      have J4 : L2.Inv X pins σ' H' { s' with heap := g4 } := J.landed nb fl4.1 ((up.trans up3).trans up4) os ag
      obtain ⟨o4, w4, he4, hz4, hd4⟩ := fl4.there
      have S4 := J4.suite he4 hd4 na nL nF
      refine store_ok (X := X.suite a ((a, o4) :: (X.pn ++ pins))) (v := .ref a) S4 hN hi (.inl hln) rfl (fun s5 S5 => ?_) (.inr hln)
      have hlt : i < σ'.length := by rw [J.len]; exact (List.getElem?_eq_some_iff.mp hi).1
      have st : PS (X.suite a ((a, o4) :: (X.pn ++ pins))) (.Assign [.Name y yp] (.Name n np2) ap) (tAsg (tVar i) (gName j)) := ps_set hN hj hly (pe_var hi (.inl hln) hdn hdc) rfl (.inl hfy)
      refine wpAny_mono ((pss_one st).run [] s5 _ H' { nx := fun σ6 H6 => σ6 = (σ'.set i (some (.ref a))).set j (some (.ref a)) ∧ H6 = H', rt := fun _ _ => False } S5 ⟨.ref a, List.getElem?_set_self hlt, rfl, rfl⟩) (fun f s6 hsp => ?_) fun _ _ z => False.elim z
      cases f with
      | next =>
        obtain ⟨σ6, H6, S6, rfl, rfl⟩ := hsp
        refine gone_ok (X := X.tr ((a, o4) :: (X.pn ++ pins)) X.xe) (Inv.keepPin S6 ok) hN hi hln fun s7 J7 => ?_
        refine wpAny_mono ((h1 a o4 cls d (X.pn ++ pins) hz4 ⟨_, hd4⟩).run [] s7 _ H6 D J7 (hyes rfl a na)) (fun f s8 q8 => ?_) fun _ _ z => z
        cases f with
        | next =>
          obtain ⟨σ9, H9, J9, q9⟩ := q8
          exact ⟨σ9, H9, Inv.dropPin J9 ok, q9⟩
        | brk =>
          obtain ⟨σ9, H9, J9, q9⟩ := q8
          exact ⟨σ9, H9, Inv.dropPin J9 ok, q9⟩
        | cont =>
          obtain ⟨σ9, H9, J9, q9⟩ := q8
          exact ⟨σ9, H9, Inv.dropPin J9 ok, q9⟩
        | ret u =>
          obtain ⟨v9, σ9, H9, J9, r9, q9⟩ := q8
          exact ⟨v9, σ9, H9, Inv.dropPin J9 ok, r9, q9⟩
      | brk =>
        obtain ⟨_, _, _, q⟩ := hsp
        exact (show False from q).elim
      | cont =>
        obtain ⟨_, _, _, q⟩ := hsp
        exact (show False from q).elim
      | ret u =>
        obtain ⟨_, _, _, _, _, q⟩ := hsp
        exact (show False from q).elim
    | false =>
      show wpAny _ X.A (handleBy (.ref a) X.env []) _ _ _
      refine wpAny_handleBy_nil ?_
      obtain ⟨k1, k2, k3, oe, vs, T, oT, ts', he, hz, hd, h1', hr⟩ := id fl3
      unfold PySem.passOn
      refine wpAny_bind (wpAny_field he hd h1' ?_)
      rw [if_neg (show ¬ ((Value.ref T == Value.none) = true) from by simp)]
      have fin : wpAny (model X.prog X.w) X.A (setFlight (.ref a) X.env.frame) (fun _ s4 => wpAny (model X.prog X.w) X.A (throw (.ref a) : Sem Flow) R X.xe s4) X.xe { s' with heap := g3 } := by
        rw [hf]
        refine HandSPX.setFlight_upZ fl3 fun g4 hh4 up4 => wpAny_throw (tk _ _ ?_)
        exact ⟨a, B, sI, pins, σ', H', cls, d, rfl, J, nb, (up.trans up3).trans up4, .inr (.inr (by rw [hs]; exact hh4)), na, os, ag, hno rfl⟩
      first
        | exact wpAny_bind (wpAny_pure (wpAny_bind fin))
        | exact wpAny_bind fin
  · cases f with
    | next =>
      obtain ⟨σ', H', J', q⟩ := hsp
      exact wpAny_execs_nil (h0.run pins s1 σ' H' D (J'.ofTry ok) q)
    | brk =>
      obtain ⟨σ', H', J', q⟩ := hsp
      exact ⟨σ', H', J'.ofTry ok, q⟩
    | cont =>
      obtain ⟨σ', H', J', q⟩ := hsp
      exact ⟨σ', H', J'.ofTry ok, q⟩
    | ret u =>
      obtain ⟨v, σ', H', J', r, q⟩ := hsp
      exact ⟨v, σ', H', J'.ofTry ok, r, q⟩
end
/-- isinstance(e, c) while the error e is known -/
theorem call_isK {X : Cx} {a D : Addr} {oe : Obj} (C : ExcC X.K D) (hz : Zc (.ref D) none oe) (hf : ∃ vs, oe.data = .fields vs) (hp : (a, oe) ∈ X.pn) : CallR X (.builtin "isinstance") (rIsE X.K D a) := by
  intro pins s σ H xs us Q I r h
  obtain ⟨c, cv, b, rfl, hcv, e, q⟩ := h
  cases r with
  | cons rx rr =>
    cases rr with
    | cons rt rr =>
      cases rr
      cases rx
      have ec := hcv _ rt
      subst ec
      have hget := (I.pin (a, oe) (List.mem_append_left _ hp)).1
      obtain ⟨vs, hv⟩ := hf
      have J : PySem.W.InstAt s.heap a oe D none := by
        obtain ⟨oc, od, oda, osl⟩ := oe
        obtain ⟨z1, z2⟩ := hz
        dsimp only at z1 z2 hv
        subst z1 z2 hv
        exact ⟨hget, rfl, rfl, trivial⟩
      exact PySem.W.kia_one (PySem.W.handS_kitx_exc C.hg C.hk C.hs C.hd C.ha C.hn C.ht C.hm) I.kIn J e (fun z => nomatch z) fun tk => ⟨.bl b, H, I.kept (t' := tk) fun _ _ z => z, rfl, q⟩
end Hg
set_option Elab.async false
set_option linter.all false
set_option maxRecDepth 100000
set_option maxHeartbeats 400000
/-! A lambda handed to a teller of refusals. -/
namespace Hg
open PySem PySem.Spec PyProof.Rows L2 RZ RT
section
variable {K : PySem.W.Frag} {F N : NS} {s s1 s' : S} {σ : L2.St} {H H1 H' : Hp}
theorem StOk.extN (k : StOk K F s σ H) (e : LamX.ExtN H H') (t : Tb K H') : StOk K F s σ H' ∧ Fr F (Nn F s σ) H (Nn F s σ) H' := by
  have f : Fr F (Nn F s σ) H (Nn F s σ) H' := ⟨fun b hb => by
    obtain ⟨u, q, n⟩ := k.dom b hb
    rw [q]
    exact e b u q n.1, fun b o n t q => ⟨e b o q t, n⟩⟩
  refine ⟨k.keep f (fun b hb => ?_) t, f⟩
  obtain ⟨u, q, n⟩ := k.own' hb
  rw [q]
  exact e b u q n.1
/-- a new object in what has grown, kept for itself -/
theorem StOk.extOw (k : StOk K F s σ H) (e : LamX.ExtN H H') (t' : Tb K H') {p : Addr} {xs : List V} {ds : List D} (hp : Np H p) (h : H' p = some (.lst xs)) (r : RpA K (fun _ => none) xs ds) : AftW K F s σ H (.lst ds) s p H' := by
  obtain ⟨k1, f1⟩ := k.extN e t'
  have np : ¬ Nn F s σ p := fun z => by
    obtain ⟨u, e1, n⟩ := k.nn' z
    exact hp u n.1 e1
  have f : Fr F (Nn F s σ) H (Nn (Ad F p) s σ) H' := by
    refine ⟨f1.keep, fun b o n t q => ⟨e b o q t, fun z => ?_⟩⟩
    rw [nn_ad] at z
    rcases z with z | z
    · exact n z
    · exact hp o t (z ▸ q)
  have l : Le (fun _ => none) (Hid (Nn (Ad F p) s σ) H') := fun b o _ z => nomatch z
  have l0 : Le (Hid (Nn F s σ) H) (Hid (Nn (Ad F p) s σ) H') := f.le
  refine ⟨⟨k.len, fun i d z => ?_, fun i u z => ?_, k.inj, fun b hb z => ?_, fun b z => ?_, k1.tb⟩, f, fun z => np (.inl z), xs, h, RpA.mono l _ _ r⟩
  · obtain ⟨v, e1, r⟩ := k.sh i d z
    exact ⟨v, e1, Rp.mono l0 _ _ r⟩
  · obtain ⟨q, e1, r⟩ := k.ow i u z
    obtain ⟨w, e2, nw⟩ := k.own' ⟨i, u, z, e1⟩
    exact ⟨q, e1, r.mono (by rw [e2]; exact e _ _ e2 nw.1) l0⟩
  · rcases z with z | z
    · exact k.ap b hb z
    · exact np (.inr (z ▸ hb))
  · rcases z with z | z
    · exact k1.dom b z
    · exact ⟨_, z ▸ h, .lst⟩
end
section
variable {EC : Nat → Addr} {C : Cal} {k : Nat} {X : Cx} {W : WX} {x : Sx} {a e : Expr} {es : List Expr} {n : Str} {i : Nat} {p pos : Pos}
theorem pe_callS0 {f : Addr} {fd : FuncData} {ps : List Str} {sp : Sp} {E : L2.St → XK} (F : FnOk X.prog X.w X.K X.mg X.base (L2.CX X.prog X.w) k f fd ps sp) (hr : Room k X.A) (hg : Gl X n) (hm : X.mg n = some (.ref f)) (hk : PySem.W.keepIn X.K (.ref f) = true) (hb : Binds X.K fd ps []) (hx : ∀ σ, PassesAt (L2.CX X.prog X.w) X σ (E σ))
    (hdb : (n == ("__debug__" : Str)) = false) : PE X (.Call (.Name n p) [] [] pos) (fun σ H Q => sp [] H Q (E σ)) := by
  refine ⟨fun pins s σ H Q I h => ?_⟩
  refine wpAny_Call_Name_kw (ld_glob I hg hm ?_ hdb)
  exact PySem.W.callWith_K0 I.kIn hk (run_fnS (us := []) F hr hb (hx σ) I .nil h)
theorem evAs_nil {bs : List Bool} {s : S} : evAs C bs .nil s = .bad ∨ evAs C bs .nil s = .ok [] s := by
  cases bs with
  | nil => exact .inr (by rw [evAs] <;> rfl)
  | cons b bs => exact .inl rfl
/-- from what is wished of the call to what is wished of the lambda -/
theorem rfd_use {ks : List Nat} {m : M Sl} {σ : L2.St} {H : Hp} {Q : VK} (h : tE X.K EC W (rfdM ks m) σ H Q) : LamX.tLam (TbL X.K) (TRef X.K EC ks) (fun E => tE X.K EC (fun cls d _ H' => E cls d H') m) σ H Q := by
  obtain ⟨F, s, k, w⟩ := h
  refine ⟨k.tb, fun H1 eN T1 => ?_⟩
  obtain ⟨k1, f1⟩ := k.extN eN T1
  refine ⟨F, s, k1, ?_⟩
  unfold rfdM frz M.bind at w
  cases q : m s with
  | bad => rw [q] at w; exact w.elim
  | ok r s' =>
    rw [q] at w
    have w : Wp X.K EC W F s σ H (match (lift r.data s' : R D) with
      | .bad => .bad
      | .ok _ s' => .ok (.sh .none) s'
      | .err e s' => match ks[e.cls]? with
        | some k => .ok (.ow (.lst [.int (k : Int)])) s'
        | none => .bad) fun r s' => ∀ v H', AftS X.K F s σ H r s' v H' → Q v H' := w
    intro v H' av
    cases hd : r.data with
    | none => rw [hd] at w; exact w.elim
    | some d =>
      rw [hd] at w
      have w : ∀ v H', AftS X.K F s σ H (.sh .none) s' v H' → Q v H' := w
      have ad := av.data hd
      refine ⟨ad.ok.tb, fun H'' e2 t2 => ?_⟩
      obtain ⟨k2, f2⟩ := ad.ok.extN e2 t2
      exact w .non H'' ⟨k2, (f1.trans ad.fr).trans f2, .non⟩
  | err er s' =>
    rw [q] at w
    have w : Wp X.K EC W F s σ H (match ks[er.cls]? with
        | some k => .ok (.ow (.lst [.int (k : Int)])) s'
        | none => .bad) fun r s' => ∀ v H', AftS X.K F s σ H r s' v H' → Q v H' := w
    intro H' cls d kk ff er1
    cases hk : ks[er.cls]? with
    | none => rw [hk] at w; exact w.elim
    | some kn =>
      rw [hk] at w
      have w : ∀ v H', AftS X.K F s σ H (.ow (.lst [.int (kn : Int)])) s' v H' → Q v H' := w
      refine ⟨er.cls, kn, er1.1, er1.2, hk, kk.tb, fun H'' p e2 t2 hp h2 => ?_⟩
      exact w _ _ ⟨p, rfl, (kk.extOw e2 t2 hp h2 (.cons (.int _) .nil)).back (f1.trans ff)⟩
theorem lam_ctx {scope : Scope} {A : Around} {outer : List Env} {s : Shared} {H : Hp} {E : XK} {f c' : Addr} {j : Nat} (c : Ctx EC C k X W x) (L : LamX.LamS X.env.scope scope) (hr : Room j (A.deeper (LamX.lamEnv X scope s.heap.objs.size f c'))) :
    Ctx EC C j (LamX.lamCx X A outer s H E scope f c') (fun cls d _ H' => E cls d H') (x.lam scope) := by
  refine ⟨rfl, c.nm, L.kind, c.nd, rfl, takes_of rfl rfl rfl rfl, hr, ?_, c.free, fun f n z => (nomatch z), c.con, fun n z => (nomatch z), (fun z => nomatch z), (fun z => nomatch z), (fun z => nomatch z), c.tbl⟩
  have := hr.un
  show (A.deeper _).units + 65 < cLine
  omega
theorem noPar_of {pr : Arguments} (h : noPar pr = true) : pr = ⟨[], [], none, [], [], none, []⟩ := by
  unfold noPar at h
  split at h
  · rfl
  · cases h
theorem s_rfd {r g : Nat} {xs : Exs} {ks : List Nat} (ih : ∀ j, GoodEs EC C j xs) : GoodE EC C k (.rfd r g xs ks) := fun X W x a c h => by
  unfold chE at h
  split at h
  · rename_i n p1 params m p2 l kw2 p3 scope p4 kw p5
    simp only [Bool.and_eq_true, decide_eq_true_eq] at h
    obtain ⟨⟨⟨⟨⟨⟨⟨⟨⟨⟨n1, n2⟩, n3⟩, n4⟩, n5⟩, n6⟩, n7⟩, n8⟩, n9⟩, n10⟩, q⟩ := h
    cases kw_nil n1
    cases kw_nil n8
    cases noPar_of n6
    have z : PE X (.Call (.Name n p1) [.Lambda ⟨[], [], none, [], [], none, []⟩ (.Call (.Name m p2) l [] p3) scope p4] [] p5) (tE X.K EC W (evE C (.rfd r g xs ks))) := by
      cases hlw : C.lw with
      | none =>
        have e : evE C (.rfd r g xs ks) = bad := by
          rw [evE, hlw]
        rw [e]
        exact ⟨fun pins s σ H Q I ⟨F, t, k, w⟩ => w.elim⟩
      | some run =>
        have e : evE C (.rfd r g xs ks) = rfdM ks ((evAs C (C.io g) xs).bind fun as => callM (C.wr run) g as) := by
          rw [evE, hlw]
          rfl
        rw [e]
        obtain ⟨a, gg, pg, bg, sg, dV, kV, doc, pm, cdv, ct, oc, an, od, osl, Ng, R⟩ := c.rf n2 run hlw r ks n n5 n3
        obtain ⟨cc, t, TB, hcode, hm, hu⟩ := c.lam n2
        obtain ⟨j, rfl, hF⟩ := c.lw n2 run hlw
        obtain ⟨g1, g2, _⟩ := c.gl n4
        have L : LamX.LamS X.env.scope scope := LamX.lamS_by (by rw [c.sc]; exact n7)
        refine peW (LamX.pe_lamcall (T := TbL X.K) (TT := TRef X.K EC ks) (t := fun E => tE X.K EC (fun cls d _ H' => E cls d H') ((evAs C (C.io g) xs).bind fun as => callM (C.wr run) g as)) g1 R.hm R.hk R.lk R.hc R.hb R.hS R.hN R.hv R.hG TB hcode hm hu c.room L rfl (fun _ _ _ _ _ => rfl) (fun A outer s H E f c' hr => ?_) g2 R.hd R.hcd) fun σ H Q w => rfd_use w
        have cl := lam_ctx (outer := outer) (H := H) (E := E) (f := f) (c' := c') c L hr
        obtain ⟨gl1, gl2, _⟩ := cl.gl n10
        have F0 := hF g m n9
        have F1 : FnAt (LamX.lamCx X A outer s H E scope f c') EC (C.wr run) j g m := F0
        have Es := ih j (LamX.lamCx X A outer s H E scope f c') _ _ l cl q
        cases l with
        | nil =>
          have e : xs = .nil := by
            cases xs with
            | nil => rfl
            | cons a b => unfold chEs at q; cases q
          subst e
          obtain ⟨ad, fd, ps, hm', hk', hb', _, F2⟩ := F1
          refine peW (pe_callS0 F2 hr gl1 hm' hk' hb' (passAt cl.tk) gl2) fun σ H Q ⟨Fs, s, kk, w⟩ => ?_
          have w := w.len
          rcases evAs_nil (C := C) (bs := C.io g) (s := s) with q | q
          · rw [q] at w
            exact w.elim
          · rw [q] at w
            exact call_use (C := C.wr run) (evAs_len (C := C) q) ⟨kk, Fr.refl, .nil⟩ w.2
        | cons b bs =>
          have pl := Es.pl
          rw [List.all_cons, Bool.and_eq_true] at pl
          exact E_callG cl.tk hr gl1 gl2 F1 (Es.as (C.io g)) (fun _ _ _ h => evAs_len h) pl.1 pl.2
    exact ⟨rfl, z, pt_plain z fun _ => rfl⟩
  · cases h
end
end Hg
set_option Elab.async false
set_option linter.all false
set_option maxRecDepth 100000
set_option maxHeartbeats 400000
/-! Statements: readings and rules. -/
namespace Hg
open PySem PySem.Spec PyProof.Rows L2 RZ RT
structure AftN (K : PySem.W.Frag) (P : List Nat) (F : NS) (s : S) (σ : L2.St) (H : Hp) (s' : S) (σ' : L2.St) (H' : Hp) : Prop where
  ok : StOk K F s' σ' H'
  fr : Fr F (Nn F s σ) H (Nn F s' σ') H'
  len : σ'.length = σ.length
  pr : ∀ i ∈ P, σ'[i]? = σ[i]?
def WpS {α : Type} (K : PySem.W.Frag) (EC : Nat → Addr) (W : WX) (P : List Nat) (F : NS) (s : S) (σ : L2.St) (H : Hp) (r : R α) (Φ : α → S → Prop) : Prop := match r with
  | .bad => False
  | .ok a s' => Φ a s'
  | .err e s' => ∀ (σ' : L2.St) (H' : Hp) (cls : Value) (d : Option Addr), AftN K P F s σ H s' σ' H' → ErR EC e cls d → W cls d σ' H'
def AftF (K : PySem.W.Frag) (P : List Nat) (F : NS) (s : S) (σ : L2.St) (H : Hp) (D : Ends) (f : Fl) (s' : S) : Prop := match f with
  | .nx => ∀ σ' H', AftN K P F s σ H s' σ' H' → D.nx σ' H'
  | .rt r => ∀ σ' H1 s1 v H', AftN K P F s σ H s1 σ' H1 → AftS K F s1 σ' H1 r s' v H' → D.rt v H'
def tS (K : PySem.W.Frag) (EC : Nat → Addr) (W : WX) (P : List Nat) (m : M Fl) : TS := fun D σ H => ∃ F s, StOk K F s σ H ∧ WpS K EC W P F s σ H (m s) (AftF K P F s σ H D)
section
variable {K : PySem.W.Frag} {EC : Nat → Addr} {W : WX} {P : List Nat} {F : NS} {s s1 s2 s' : S} {σ σ1 σ2 σ' : L2.St} {H H1 H2 H' : Hp} {α β : Type}
theorem AftN.refl (k : StOk K F s σ H) : AftN K P F s σ H s σ H := ⟨k, Fr.refl, rfl, fun _ _ => rfl⟩
theorem AftN.trans (a : AftN K P F s σ H s1 σ1 H1) (b : AftN K P F s1 σ1 H1 s2 σ2 H2) : AftN K P F s σ H s2 σ2 H2 :=
  ⟨b.ok, a.fr.trans b.fr, b.len.trans a.len, fun i h => (b.pr i h).trans (a.pr i h)⟩
theorem AftN.of (k : StOk K F s' σ H') (f : Fr F (Nn F s σ) H (Nn F s' σ) H') : AftN K P F s σ H s' σ H' := ⟨k, f, rfl, fun _ _ => rfl⟩
theorem WpS.toE {r : R α} {Φ : α → S → Prop} (h : WpS K EC W P F s σ H r Φ) : Wp K EC W F s σ H r Φ := by
  cases r with
  | bad => exact h
  | ok a s' => exact h
  | err e s' => exact fun H' cls d k f x => h σ H' cls d (.of k f) x
theorem WpS.mono {r : R α} {Φ Φ' : α → S → Prop} (h : WpS K EC W P F s σ H r Φ) (k : ∀ a s', Φ a s' → Φ' a s') : WpS K EC W P F s σ H r Φ' := by
  cases r with
  | bad => exact h
  | ok a s' => exact k a s' h
  | err e s' => exact h
theorem WpS.bind {m : M α} {f : α → M β} {Φ : β → S → Prop} (h : WpS K EC W P F s σ H ((m.bind f) s1) Φ) : WpS K EC W P F s σ H (m s1) fun a s2 => WpS K EC W P F s σ H (f a s2) Φ := by
  have e : (m.bind f) s1 = (m s1).bind fun a s' => f a s' := rfl
  rw [e] at h
  cases q : m s1 with
  | bad => rw [q] at h; exact h
  | ok a s' => rw [q] at h; exact h
  | err e s' => rw [q] at h; exact h
theorem WpS.on {r : R α} {Φ : α → S → Prop} (f : AftN K P F s σ H s1 σ1 H1) (h : WpS K EC W P F s σ H r Φ) : WpS K EC W P F s1 σ1 H1 r Φ := by
  cases r with
  | bad => exact h
  | ok a s' => exact h
  | err e s' => exact fun σ' H' cls d a x => h σ' H' cls d (f.trans a) x
theorem AftF.on {D : Ends} {f : Fl} (a : AftN K P F s σ H s1 σ1 H1) (h : AftF K P F s σ H D f s') : AftF K P F s1 σ1 H1 D f s' := by
  cases f with
  | nx => exact fun σ' H' b => h σ' H' (a.trans b)
  | rt r => exact fun σ' H1 s1 v H' b c => h σ' H1 s1 v H' (a.trans b) c
theorem WpS.lift {o : Option α} {Φ : α → S → Prop} (w : WpS K EC W P F s σ H (lift o s1) Φ) : ∃ a, o = some a ∧ Φ a s1 := by
  cases o with
  | none => exact False.elim w
  | some a => exact ⟨a, rfl, w⟩
/-- behind a store of what was made -/
theorem StOk.putS {r : Sl} {v : V} (k : StOk K F s σ H) (a : AftS K F s σ H r s1 v H1) {i : Nat} (hi : i < s1.length) (hp : i ∉ P) : AftN K P F s σ H (s1.set i r) (σ.set i (some v)) H1 := by
  have pr : ∀ j ∈ P, (σ.set i (some v))[j]? = σ[j]? := fun j hj => List.getElem?_set_ne fun (z : i = j) => hp (by rw [z]; exact hj)
  cases r with
  | un => exact a.elim
  | sh d =>
    obtain ⟨k2, f2⟩ := (AftD.ok a).put hi (AftD.rp a)
    exact ⟨k2, (AftD.fr a).trans f2, List.length_set, pr⟩
  | ow o =>
    obtain ⟨p, rfl, q⟩ := a
    obtain ⟨k1, f1⟩ := q.ok.sub (s' := s1.set i .un) (σ' := σ.set i (some (.ref p))) (by rw [List.length_set, List.length_set]; exact q.ok.len) fun j x e hx => by
      by_cases hj : j = i
      · subst hj
        rw [List.getElem?_set_self hi] at e
        cases e
        exact absurd rfl hx
      · rw [List.getElem?_set_ne (Ne.symm hj)] at e
        exact ⟨e, List.getElem?_set_ne (Ne.symm hj)⟩
    have hiσ : i < σ.length := by rw [← q.ok.len]; exact hi
    have npo : ¬ Own (s1.set i .un) (σ.set i (some (.ref p))) p := fun z => k1.ap p z (.inr rfl)
    have own' : ∀ b, Own (s1.set i (.ow o)) (σ.set i (some (.ref p))) b ↔ (Own (s1.set i .un) (σ.set i (some (.ref p))) b ∨ b = p) := fun b => by
      constructor
      · rintro ⟨j, u, e1, e2⟩
        by_cases hj : j = i
        · subst hj
          rw [List.getElem?_set_self hiσ] at e2
          cases e2
          exact .inr rfl
        · rw [List.getElem?_set_ne (Ne.symm hj)] at e1
          exact .inl ⟨j, u, by rw [List.getElem?_set_ne (Ne.symm hj)]; exact e1, e2⟩
      · rintro (⟨j, u, e1, e2⟩ | rfl)
        · by_cases hj : j = i
          · subst hj
            rw [List.getElem?_set_self hi] at e1
            cases e1
          · rw [List.getElem?_set_ne (Ne.symm hj)] at e1
            exact ⟨j, u, by rw [List.getElem?_set_ne (Ne.symm hj)]; exact e1, e2⟩
        · exact ⟨i, o, List.getElem?_set_self hi, List.getElem?_set_self hiσ⟩
    have nn : Nn F (s1.set i (.ow o)) (σ.set i (some (.ref p))) = Nn (Ad F p) (s1.set i .un) (σ.set i (some (.ref p))) := by
      funext b
      apply propext
      constructor
      · rintro (z | z)
        · exact .inl (.inl z)
        · rcases (own' b).mp z with z | z
          · exact .inr z
          · exact .inl (.inr z)
      · rintro ((z | z) | z)
        · exact .inl z
        · exact .inr ((own' b).mpr (.inr z))
        · exact .inr ((own' b).mpr (.inl z))
    have at' : OwAt K (Nn F (s1.set i (.ow o)) (σ.set i (some (.ref p)))) H1 p o := by
      rw [nn]
      exact q.at_.mono rfl f1.le
    have ff : Fr F (Nn F s σ) H (Nn F (s1.set i (.ow o)) (σ.set i (some (.ref p)))) H1 := by
      rw [nn]
      exact ⟨q.fr.keep, fun b u n t e => let ⟨e1, n1⟩ := q.fr.imm b u n t e; f1.imm b u n1 t e1⟩
    refine ⟨⟨by rw [List.length_set, List.length_set]; exact q.ok.len, fun j d e => ?_, fun j u e => ?_, fun a b u u' c e e' g g' => ?_, fun b z => ?_, fun b z => q.ok.dom b (.inl z), q.ok.tb⟩, ff, List.length_set, pr⟩
    · by_cases hj : j = i
      · subst hj
        rw [List.getElem?_set_self hi] at e
        cases e
      · rw [List.getElem?_set_ne (Ne.symm hj)] at e
        obtain ⟨v', e1, r⟩ := k1.sh j d (by rw [List.getElem?_set_ne (Ne.symm hj)]; exact e)
        exact ⟨v', e1, by rw [nn]; exact r⟩
    · by_cases hj : j = i
      · subst hj
        rw [List.getElem?_set_self hi] at e
        cases e
        exact ⟨p, List.getElem?_set_self hiσ, at'⟩
      · rw [List.getElem?_set_ne (Ne.symm hj)] at e
        obtain ⟨v', e1, r⟩ := k1.ow j u (by rw [List.getElem?_set_ne (Ne.symm hj)]; exact e)
        exact ⟨v', e1, by rw [nn]; exact r⟩
    · have other : ∀ {j : Nat} {u : Ob}, j ≠ i → (s1.set i (.ow o))[j]? = some (.ow u) → (s1.set i .un)[j]? = some (.ow u) := fun {j u} hj e => by
        rw [List.getElem?_set_ne (Ne.symm hj)] at e ⊢
        exact e
      by_cases ha : a = i
      · by_cases hb : b = i
        · rw [ha, hb]
        · exfalso
          rw [ha, List.getElem?_set_self hiσ] at g
          cases g
          exact npo ⟨b, u', other hb e', g'⟩
      · by_cases hb : b = i
        · exfalso
          rw [hb, List.getElem?_set_self hiσ] at g'
          cases g'
          exact npo ⟨a, u, other ha e, g⟩
        · exact k1.inj a b u u' c (other ha e) (other hb e') g g'
    · rcases (own' b).mp z with z | rfl
      · exact fun y => k1.ap b z (.inl y)
      · exact q.nf
/-- an owned slot's content leaves -/
theorem StOk.leave (k : StOk K F s σ H) {i : Nat} {o : Ob} {p : Addr} (e : s[i]? = some (.ow o)) (ep : σ[i]? = some (some (.ref p))) : AftW K F s σ H o (s.set i .un) p H := by
  have hi := get_lt e
  have own' : ∀ b, Own s σ b ↔ (Own (s.set i .un) σ b ∨ b = p) := fun b => by
    constructor
    · rintro ⟨j, u, e1, e2⟩
      by_cases hj : j = i
      · subst hj
        rw [ep] at e2
        cases e2
        exact .inr rfl
      · exact .inl ⟨j, u, by rw [List.getElem?_set_ne (Ne.symm hj)]; exact e1, e2⟩
    · rintro (⟨j, u, e1, e2⟩ | rfl)
      · by_cases hj : j = i
        · subst hj
          rw [List.getElem?_set_self hi] at e1
          cases e1
        · rw [List.getElem?_set_ne (Ne.symm hj)] at e1
          exact ⟨j, u, e1, e2⟩
      · exact ⟨i, o, e, ep⟩
  have np : ¬ Own (s.set i .un) σ p := fun ⟨j, u, e1, e2⟩ => by
    by_cases hj : j = i
    · subst hj
      rw [List.getElem?_set_self hi] at e1
      cases e1
    · rw [List.getElem?_set_ne (Ne.symm hj)] at e1
      exact hj (k.inj j i u o p e1 e e2 ep)
  have nn : Nn (Ad F p) (s.set i .un) σ = Nn F s σ := by
    funext b
    apply propext
    constructor
    · rintro ((z | z) | z)
      · exact .inl z
      · exact .inr ((own' b).mpr (.inr z))
      · exact .inr ((own' b).mpr (.inl z))
    · rintro (z | z)
      · exact .inl (.inl z)
      · rcases (own' b).mp z with z | z
        · exact .inr z
        · exact .inl (.inr z)
  obtain ⟨p', ep', q⟩ := k.ow i o e
  rw [ep] at ep'
  cases ep'
  have back : ∀ {j : Nat} {x : Sl}, x ≠ .un → (s.set i .un)[j]? = some x → s[j]? = some x := fun {j x} hx z => by
    by_cases hj : j = i
    · subst hj
      rw [List.getElem?_set_self hi] at z
      cases z
      exact absurd rfl hx
    · rw [List.getElem?_set_ne (Ne.symm hj)] at z
      exact z
  refine ⟨⟨by rw [List.length_set]; exact k.len, fun j d z => ?_, fun j u z => ?_, fun a b u u' c z z' g g' => k.inj a b u u' c (back (fun y => nomatch y) z) (back (fun y => nomatch y) z') g g', fun b z y => ?_, fun b z => ?_, k.tb⟩, ?_, fun z => k.ap p ⟨i, o, e, ep⟩ z, by rw [nn]; exact q⟩
  · obtain ⟨v, e1, r⟩ := k.sh j d (back (fun y => nomatch y) z)
    exact ⟨v, e1, by rw [nn]; exact r⟩
  · obtain ⟨v, e1, r⟩ := k.ow j u (back (fun y => nomatch y) z)
    exact ⟨v, e1, by rw [nn]; exact r⟩
  · rcases y with y | y
    · exact k.ap b ((own' b).mpr (.inl z)) y
    · exact np (y ▸ z)
  · rcases z with z | z
    · exact k.dom b z
    · exact z ▸ q.there'
  · rw [nn]
    exact Fr.refl
end
end Hg
set_option Elab.async false
set_option linter.all false
set_option maxRecDepth 100000
set_option maxHeartbeats 400000
/-! A call with one thing just made. -/
namespace Hg
open PySem PySem.Spec PyProof.Rows L2 RZ RT
section
variable {K : PySem.W.Frag} {F : NS} {s s1 : S} {σ : L2.St} {H H1 H' : Hp}
theorem get_app {α : Type} {l : List α} {x y : α} {j : Nat} (h : (l ++ [x])[j]? = some y) : l[j]? = some y ∨ (j = l.length ∧ y = x) := by
  by_cases hj : j < l.length
  · rw [List.getElem?_append_left hj] at h
    exact .inl h
  · rw [List.getElem?_append_right (by omega)] at h
    have e : j - l.length = 0 := by
      by_cases z : j - l.length = 0
      · exact z
      · rw [List.getElem?_eq_none (by simp; omega)] at h
        cases h
    rw [e] at h
    cases h
    exact .inr ⟨by omega, rfl⟩
theorem app_get {α : Type} {l : List α} {x y : α} {j : Nat} (h : l[j]? = some y) : (l ++ [x])[j]? = some y := by
  rw [List.getElem?_append_left (List.getElem?_eq_some_iff.mp h).1]
  exact h
theorem own_app (hl : s.length = σ.length) (b : Addr) : Own (s ++ [.un]) (σ ++ [none]) b ↔ Own s σ b := by
  constructor
  · rintro ⟨j, o, e1, e2⟩
    rcases get_app e1 with z | ⟨_, z⟩
    · rcases get_app e2 with y | ⟨_, y⟩
      · exact ⟨j, o, z, y⟩
      · cases y
    · cases z
  · rintro ⟨j, o, e1, e2⟩
    exact ⟨j, o, app_get e1, app_get e2⟩
theorem nn_app (hl : s.length = σ.length) : Nn F (s ++ [.un]) (σ ++ [none]) = Nn F s σ := by
  funext b
  exact propext (or_congr Iff.rfl (own_app hl b))
theorem StOk.more (k : StOk K F s σ H) : StOk K F (s ++ [.un]) (σ ++ [none]) H := by
  have hl := k.len
  refine (k.sub (s' := s ++ [.un]) (σ' := σ ++ [none]) (by simp [hl]) fun j x e hx => ?_).1
  rcases get_app e with z | ⟨_, z⟩
  · refine ⟨z, ?_⟩
    rw [List.getElem?_append_left (by rw [← hl]; exact get_lt z)]
  · exact absurd z hx
/-- one slot more, with the thing in it -/
theorem AftW.more {o : Ob} {p : Addr} (k : StOk K F s σ H) (a : AftW K F s σ H o s1 p H1) : StOk K F (s1 ++ [.ow o]) (σ ++ [some (.ref p)]) H1 ∧ Fr F (Nn F s σ) H (Nn F (s1 ++ [.ow o]) (σ ++ [some (.ref p)])) H1 := by
  have hl := k.len
  have hl1 : s1.length = σ.length := a.ok.len
  have a2 : AftW K F (s ++ [.un]) (σ ++ [none]) H o (s1 ++ [.un]) p H1 := by
    refine ⟨a.ok.more, ?_, a.nf, ?_⟩
    · rw [nn_app hl, nn_app hl1]
      exact a.fr
    · rw [nn_app hl1]
      exact a.at_
  have z := StOk.putS (P := []) (i := s1.length) (r := .ow o) (v := .ref p) k.more ⟨p, rfl, a2⟩ (by simp) (by simp)
  have e1 : (s1 ++ [Sl.un]).set s1.length (.ow o) = s1 ++ [.ow o] := by simp
  have e2 : (σ ++ [none]).set s1.length (some (.ref p)) = σ ++ [some (.ref p)] := by rw [hl1]; simp
  rw [e1, e2] at z
  have f := z.fr
  rw [nn_app hl] at f
  exact ⟨z.ok, f⟩
/-- the slot more is forgotten -/
theorem StOk.less {F1 : NS} {o : Sl} {v : Option V} (hl : s.length = σ.length) (k : StOk K F1 (s ++ [o]) (σ ++ [v]) H) : StOk K F1 s σ H ∧ Fr F1 (Nn F1 (s ++ [o]) (σ ++ [v])) H (Nn F1 s σ) H :=
  k.sub hl fun j x e hx => ⟨app_get e, by rw [List.getElem?_append_left (by rw [← hl]; exact get_lt e)]⟩
theorem AftS.less {r : Sl} {o o' : Sl} {v : Option V} {u : V} (hl : s1.length = σ.length) (f : Fr F (Nn F s σ) H (Nn F (s1 ++ [o]) (σ ++ [v])) H1) (a : AftS K F (s1 ++ [o]) (σ ++ [v]) H1 r (s1 ++ [o']) u H') : AftS K F s σ H r s1 u H' := by
  cases r with
  | un => exact a
  | sh d =>
    have a : AftD K F (s1 ++ [o]) (σ ++ [v]) H1 d (s1 ++ [o']) u H' := a
    obtain ⟨k2, f2⟩ := StOk.less hl a.ok
    exact ⟨k2, (f.trans a.fr).trans f2, Rp.mono f2.le _ _ a.rp⟩
  | ow w =>
    obtain ⟨p, e, q⟩ := a
    obtain ⟨k2, f2⟩ := StOk.less hl q.ok
    have f3 := f.trans q.fr
    exact ⟨p, e, k2, ⟨f3.keep, fun b o n t e => let ⟨e1, n1⟩ := f3.imm b o n t e; f2.imm b o n1 t e1⟩, q.nf, q.at_.mono rfl f2.le⟩
end
section
variable {EC : Nat → Addr} {C : Cal} {k : Nat} {X : Cx} {W : WX} {e : Expr} {n : Str} {p pos : Pos} {m : M Sl}
theorem tmp_use {f : Nat} {F : NS} {s s1 : S} {σ : L2.St} {H H1 : Hp} {r : Sl} {v : V} {Q : VK} (k : StOk X.K F s σ H) (a : AftS X.K F s σ H r s1 v H1)
    (w : Wp X.K EC W F s σ H (tmpM C f r s1) fun r s' => ∀ v H', AftS X.K F s σ H r s' v H' → Q v H') : spF X.K EC (C.io f).length (C.run f) [v] H1 Q (WE W σ) := by
  cases r with
  | un => exact a.elim
  | sh d => exact w.elim
  | ow o =>
    obtain ⟨p, rfl, q⟩ := a
    have w : Wp X.K EC W F s σ H (if (C.io f).length = 1 then (match C.run f [.ow o] with
      | .ok r [_] => .ok r s1
      | .err e [_] => .err e s1
      | _ => .bad) else .bad) fun r s' => ∀ v H', AftS X.K F s σ H r s' v H' → Q v H' := w
    by_cases hl : (C.io f).length = 1
    case neg => rw [if_neg hl] at w; exact w.elim
    rw [if_pos hl] at w
    obtain ⟨ke, fe⟩ := AftW.more k q
    have hn : s1.length = σ.length := q.ok.len
    have at_ : (s1 ++ [Sl.ow o])[s1.length]? = some (.ow o) := by simp
    have atσ : (σ ++ [some (V.ref p)])[s1.length]? = some (some (.ref p)) := by rw [hn]; simp
    refine call_use (C := C) (W := fun cls d _ H' => W cls d σ H') (as := [.io s1.length]) (s := s1 ++ [.ow o]) (s1 := s1 ++ [.ow o]) (σ := σ ++ [some (.ref p)]) (H := H1) hl.symm ⟨ke, Fr.refl, .io atσ .nil⟩ ?_
    have e1 : callM C f [.io s1.length] (s1 ++ [.ow o]) = callE (C.run f [.ow o]) [s1.length] (s1 ++ [.ow o]) := by
      have e2 : argSls (s1 ++ [.ow o]) [.io s1.length] = some [.ow o] := by
        have e3 : ioSl (s1 ++ [Sl.ow o]) s1.length = some (.ow o) := by
          unfold ioSl
          rw [at_]
        show (match ioSl (s1 ++ [.ow o]) s1.length, (some [] : Option (List Sl)) with
          | some x, some xs => some (x :: xs)
          | _, _ => none) = _
        rw [e3]
      show (if (ioIx [Ag.io s1.length]).Nodup then (match argSls (s1 ++ [.ow o]) [.io s1.length] with
        | none => R.bad
        | some vs => callE (C.run f vs) (ioIx [Ag.io s1.length]) (s1 ++ [Sl.ow o])) else .bad) = _
      rw [if_pos (by show [s1.length].Nodup; simp), e2]
      rfl
    rw [e1]
    have put : ∀ o', putOuts (s1 ++ [Sl.ow o]) [s1.length] [o'] = s1 ++ [.ow o'] := fun o' => by
      show (s1 ++ [Sl.ow o]).set s1.length (.ow o') = _
      simp
    cases hr : C.run f [.ow o] with
    | bad => rw [hr] at w; exact w.elim
    | ok r outs =>
      rw [hr] at w
      match outs, w with
      | [o'], w =>
        have w : ∀ v H', AftS X.K F s σ H r s1 v H' → Q v H' := w
        show Wp X.K EC _ F _ _ H1 (if [o'].length = [s1.length].length then .ok r (putOuts (s1 ++ [.ow o]) [s1.length] [o']) else .bad) _
        rw [if_pos (show [o'].length = [List.length s1].length from rfl), put]
        exact fun v H' z => w v H' (AftS.less hn fe z)
      | [], w => exact w.elim
      | _ :: _ :: _, w => exact w.elim
    | err u outs =>
      rw [hr] at w
      match outs, w with
      | [o'], w =>
        have w : ∀ (H' : Hp) (cls : Value) (d : Option Addr), StOk X.K F s1 σ H' → Fr F (Nn F s σ) H (Nn F s1 σ) H' → ErR EC u cls d → W cls d σ H' := w
        show Wp X.K EC _ F _ _ H1 (if [o'].length = [s1.length].length then .err u (putOuts (s1 ++ [.ow o]) [s1.length] [o']) else .bad) _
        rw [if_pos (show [o'].length = [List.length s1].length from rfl), put]
        intro H' cls d kk ff er
        obtain ⟨k2, f2⟩ := StOk.less hn kk
        exact w H' cls d k2 ((fe.trans ff).trans f2) er
      | [], w => exact w.elim
      | _ :: _ :: _, w => exact w.elim
theorem E_callT {f : Nat} (tk : Takes X W) (hr : Room k X.A) (hg : Gl X n) (hd : (n == ("__debug__" : Str)) = false) (hF : FnAt X EC C k f n) (he : PE X e (tE X.K EC W m)) (hst : noStar e = true) :
    PE X (.Call (.Name n p) [e] [] pos) (tE X.K EC W (m.bind (tmpM C f))) := by
  obtain ⟨ad, fd, ps, hm, hk, hb, _, F⟩ := hF
  exact peW (pe_callS F hr hg hm hk hb (passAt tk) (pa_cons he pa_nil (star_cons hst _)) hd (star_cons hst _) rfl) fun σ H Q ⟨Fs, s, k, w⟩ => ⟨Fs, s, k, w.bind.mono fun r s1 hx v H1 ax => tmp_use k ax hx⟩
end
end Hg
set_option Elab.async false
set_option linter.all false
set_option maxRecDepth 100000
set_option maxHeartbeats 400000
/-! Every expression runs as its term says: the rest, and the whole. -/
namespace Hg
open PySem PySem.Spec PyProof.Rows L2 RZ RT
section
variable {EC : Nat → Addr} {C : Cal} {k : Nat} {X : Cx} {W : WX} {x : Sx} {a e : Expr} {es : List Expr} {n : Str} {i : Nat} {p pos : Pos}
theorem E_call0 {f : Nat} (tk : Takes X W) (hr : Room k X.A) (hg : Gl X n) (hd : (n == ("__debug__" : Str)) = false) (hF : FnAt X EC C k f n) :
    PE X (.Call (.Name n p) [] [] pos) (tE X.K EC W ((evAs C (C.io f) .nil).bind fun as => callM C f as)) := by
  obtain ⟨ad, fd, ps, hm, hk, hb, hl, F⟩ := hF
  refine peW (pe_callS0 F hr hg hm hk hb (passAt tk) hd) fun σ H Q ⟨Fs, s, kk, w⟩ => ?_
  have w := w.len
  rcases evAs_nil (C := C) (bs := C.io f) (s := s) with q | q
  · rw [q] at w
    exact w.elim
  · rw [q] at w
    exact call_use (evAs_len q) ⟨kk, Fr.refl, .nil⟩ w.2
theorem E_callN0 {f : Nat} (tk : Takes X W) (hr : Room k X.A) (hg : Gl X n) (hd : (n == ("__debug__" : Str)) = false) (hF : FnAt X EC C k f n) :
    PE X (.Call (.Name n p) [] [] pos) (tE X.K EC W ((evOs C .nil).bind fun xs => callN C f xs)) := by
  obtain ⟨ad, fd, ps, hm, hk, hb, hl, F⟩ := hF
  refine peW (pe_callS0 F hr hg hm hk hb (passAt tk) hd) fun σ H Q ⟨Fs, s, kk, w⟩ => ?_
  have w : Wp X.K EC W Fs s σ H (callN C f [] s) fun r s' => ∀ v H', AftS X.K Fs s σ H r s' v H' → Q v H' := by
    have e : ((evOs C .nil).bind fun xs => callN C f xs) s = callN C f [] s := by
      rw [evOs]
      rfl
    rw [← e]
    exact w
  exact callN_use ⟨kk, Fr.refl, .nil⟩ w
theorem s_call {f : Nat} {xs : Exs} (h1 : GoodEs EC C k xs) : GoodE EC C k (.call f xs) := fun X W x a c h => by
  unfold chE at h
  split at h
  · rename_i n p l kw p2
    rw [Bool.and_eq_true, Bool.and_eq_true, Bool.and_eq_true] at h
    obtain ⟨⟨⟨n1, n2⟩, n3⟩, q⟩ := h
    cases kw_nil n1
    obtain ⟨g1, g2, _⟩ := c.gl n3
    have F := c.fn f n (of_decide_eq_true n2)
    have es := h1 X W x l c q
    have z : PE X (.Call (.Name n p) l [] p2) (tE X.K EC W (evE C (.call f xs))) := by
      rw [evE]
      by_cases hio : hasT (C.io f) = true
      · rw [if_pos hio]
        by_cases ht : isTmp xs = true
        · rw [if_pos ht]
          have one : ∃ a, l = [a] := by
            cases xs with
            | nil => cases ht
            | cons e1 r =>
              cases r with
              | cons e2 r2 => cases e1 <;> cases ht
              | nil =>
                cases l with
                | nil => unfold chEs at q; cases q
                | cons a l2 =>
                  unfold chEs at q
                  rw [Bool.and_eq_true] at q
                  have q2 := q.2
                  cases l2 with
                  | nil => exact ⟨a, rfl⟩
                  | cons b l3 => unfold chEs at q2; cases q2
          obtain ⟨b, rfl⟩ := one
          have pl := es.pl
          rw [List.all_cons, Bool.and_eq_true] at pl
          exact E_callT c.tk c.room g1 g2 F (es.tm b rfl) pl.1
        · rw [if_neg ht]
          cases l with
          | nil =>
            have e : xs = .nil := by
              cases xs with
              | nil => rfl
              | cons a b => unfold chEs at q; cases q
            subst e
            exact E_call0 c.tk c.room g1 g2 F
          | cons b bs =>
            have pl := es.pl
            rw [List.all_cons, Bool.and_eq_true] at pl
            exact E_call c.tk c.room g1 g2 F (es.as (C.io f)) pl.1 pl.2
      · rw [if_neg hio]
        cases l with
        | nil =>
          have e : xs = .nil := by
            cases xs with
            | nil => rfl
            | cons a b => unfold chEs at q; cases q
          subst e
          exact E_callN0 c.tk c.room g1 g2 F
        | cons b bs =>
          have pl := es.pl
          rw [List.all_cons, Bool.and_eq_true] at pl
          exact E_callN c.tk c.room g1 g2 F es.os pl.1 pl.2
    exact ⟨rfl, z, pt_plain z fun _ => rfl⟩
  · cases h
theorem s_bf {b : Bf} {xs : Exs} (h1 : GoodEs EC C k xs) : GoodE EC C k (.bf b xs) := fun X W x a c h => by
  unfold chE at h
  split at h
  · rename_i n p l ls kw p2
    rw [Bool.and_eq_true, Bool.and_eq_true, Bool.and_eq_true] at h
    obtain ⟨⟨⟨n1, n2⟩, n3⟩, q⟩ := h
    cases kw_nil n1
    obtain ⟨g1, g2⟩ := c.bl n3
    have es := h1 X W x _ c q
    have pl := es.pl
    rw [List.all_cons, Bool.and_eq_true] at pl
    have z := E_bf (EC := EC) (W := W) (p := p) (pos := p2) (b := b) c.calm c.un (of_decide_eq_true n2) g1 g2 es.os pl.1 pl.2
    exact ⟨rfl, z, pt_plain z fun _ => rfl⟩
  · cases h
theorem ty_boot : ∀ t : Ty, bootBuiltins (Str.ofString t.name) = some (.type t.name)
  | .int => by decide +kernel
  | .bool => by decide +kernel
  | .tuple => by decide +kernel
  | .list => by decide +kernel
  | .str => by decide +kernel
  | .dict => by decide +kernel
theorem ty_dbg : ∀ t : Ty, (Str.ofString t.name == ("__debug__" : Str)) = false ∧ Str.ofString t.name ≠ "__name__"
  | .int => by decide +kernel
  | .bool => by decide +kernel
  | .tuple => by decide +kernel
  | .list => by decide +kernel
  | .str => by decide +kernel
  | .dict => by decide +kernel
theorem ty_ok (c : Ctx EC C k X W x) {t : Ty} (h : x.ty t a = true) : plainE a = true ∧ PE X a (tC (.ty t.name)) := by
  unfold Sx.ty at h
  split at h
  · rename_i n p
    rw [Bool.and_eq_true] at h
    cases of_decide_eq_true h.1
    obtain ⟨g1, g2⟩ := c.bl h.2
    exact ⟨rfl, pe_bltn g1 g2 (ty_boot t) rfl (ty_dbg t).2 (ty_dbg t).1⟩
  · cases h
theorem tys_ok (c : Ctx EC C k X W x) : ∀ {ts : List Ty} {l : List Expr}, x.tys ts l = true → PA X l (fun σ H Q => Q (ts.map fun (t : Ty) => V.ty t.name) H)
  | [], [], _ => pa_nil
  | t :: ts, e :: es, h => by
    have h : (x.ty t e && x.tys ts es) = true := h
    rw [Bool.and_eq_true] at h
    obtain ⟨p1, v1⟩ := ty_ok c h.1
    exact pa_cons v1 (tys_ok c h.2) (star_cons (plain_star p1) _)
  | [], _ :: _, h => by cases h
  | _ :: _, [], h => by cases h
theorem s_isi {e1 : Ex} {ts : List Ty} (h1 : GoodE EC C k e1) : GoodE EC C k (.isi e1 ts) := fun X W x a c h => by
  unfold chE at h
  split at h
  · rename_i n p l r kw p2
    simp only [Bool.and_eq_true, decide_eq_true_eq] at h
    obtain ⟨⟨⟨⟨⟨n1, n2⟩, n3⟩, q⟩, qt⟩, hl⟩ := h
    cases kw_nil n1
    obtain ⟨g1, g2⟩ := c.bl n3
    have hr : plainE r = true ∧ ((∃ t : Ty, ts = [t] ∧ PE X r (tC (.ty t.name))) ∨ PE X r (tTup fun σ H Q => Q (ts.map fun (t : Ty) => V.ty t.name) H)) := by
      unfold Sx.tyE at qt
      split at qt
      · obtain ⟨a1, a2⟩ := ty_ok c qt
        exact ⟨a1, .inl ⟨_, rfl, a2⟩⟩
      · exact ⟨rfl, .inr (pe_tup (tys_ok c qt))⟩
      · cases qt
    have z := E_isi (EC := EC) (W := W) (p := p) (pos := p2) n2 g1 g2 (opnd_ok h1 c q) (plain_star (h1 X W x _ c q).1) (plain_star hr.1) hl hr.2
    exact ⟨rfl, z, pt_plain z fun _ => rfl⟩
  · cases h
theorem s_pop {e1 : Ex} (h1 : GoodE EC C k e1) : GoodE EC C k (.pop i e1) := fun X W x a c h => by
  unfold chE at h
  split at h
  · rename_i n p m ap l kw cp
    simp only [Bool.and_eq_true, decide_eq_true_eq] at h
    obtain ⟨⟨⟨⟨n1, rfl⟩, n3⟩, q⟩, hl⟩ := h
    cases kw_nil n1
    obtain ⟨p1, v1, _⟩ := h1 X W x _ c q
    have z := E_pop (EC := EC) (W := W) (c.name (p := p) n3) v1 (plain_star p1) hl
    exact ⟨rfl, z, pt_plain z fun _ => rfl⟩
  · cases h
theorem att_name {a : Expr} {m : Str} {env : Env} (h : isName a = true) : attributeBase a m env (eval a env) = eval a env := by
  cases a <;> first | rfl | (cases h)
theorem s_dget {e1 e2 e3 : Ex} (h1 : GoodE EC C k e1) (h2 : GoodE EC C k e2) (h3 : GoodE EC C k e3) : GoodE EC C k (.dget e1 e2 e3) := fun X W x a c h => by
  unfold chE at h
  split at h
  · rename_i l m ap r1 r2 kw cp
    simp only [Bool.and_eq_true, decide_eq_true_eq] at h
    obtain ⟨⟨⟨⟨⟨⟨n1, rfl⟩, n3⟩, q1⟩, q2⟩, q3⟩, hl⟩ := h
    cases kw_nil n1
    obtain ⟨p2, v2, _⟩ := h2 X W x _ c q2
    obtain ⟨p3, v3, _⟩ := h3 X W x _ c q3
    have z : PE X (.Call (.Attribute l "get" ap) [r1, r2] [] cp) (tE X.K EC W (evE C (.dget e1 e2 e3))) := E_get c.un (opnd_ok h1 c q1) v2 v3 (plain_star p2) (plain_star p3) (att_name n3) hl
    exact ⟨rfl, z, pt_plain z fun _ => rfl⟩
  · cases h
theorem s_dtk {es : Exs} (h1 : GoodEs EC C k es) : GoodE EC C k (.dtk es) := fun X W x a c h => by
  unfold chE at h
  split at h
  · rename_i keys l pos
    simp only [Bool.and_eq_true, decide_eq_true_eq, Bool.not_eq_true'] at h
    obtain ⟨⟨⟨n1, n2⟩, n3⟩, q⟩ := h
    have z : PE X (.Dict keys l pos) (tE X.K EC W (evE C (.dtk es))) := E_dtk c.un n1 n2 (fun y => by rw [y] at n3; cases n3) (h1 X W x _ c q).pw
    exact ⟨rfl, z, pt_plain z fun _ => rfl⟩
  · cases h
theorem s_lset {e1 : Ex} (h1 : GoodE EC C k e1) : GoodE EC C k (.lset e1) := fun X W x a c h => by
  unfold chE at h
  split at h
  · rename_i n p m p2 l kw2 q kw pos
    simp only [Bool.and_eq_true, decide_eq_true_eq] at h
    obtain ⟨⟨⟨⟨⟨⟨n1, n2⟩, rfl⟩, rfl⟩, n5⟩, n6⟩, r⟩ := h
    cases kw_nil n1
    cases kw_nil n2
    obtain ⟨p1, v1, _⟩ := h1 X W x _ c r
    obtain ⟨g1, m1⟩ := c.bl n5
    obtain ⟨g2, m2⟩ := c.bl n6
    have z : PE X (.Call (.Name "len" p) [.Call (.Name "set" p2) [l] [] q] [] pos) (tE X.K EC W (evE C (.lset e1))) := E_lset c.calm g1 m1 g2 m2 v1 (plain_star p1)
    exact ⟨rfl, z, pt_plain z fun _ => rfl⟩
  · cases h
theorem E_cget {g : Str} {tab : List (Str × Int)} {a : Expr} {m : M Sl} {p1 ap cp : Pos} (T : TabAt X g tab) (hg : Gl X g) (hdb : (g == ("__debug__" : Str)) = false) (ha : PE X a (tE X.K EC W m)) (na : noStar a = true) (hl : (ap.endLine == cp.line) = true) :
    PE X (.Call (.Attribute (.Name g p1) "get" ap) [a] [] cp) (tE X.K EC W ((frz m).bind fun d => lift (cgetD tab d))) := by
  obtain ⟨d, es, n, hm, D, look⟩ := T
  refine ⟨fun pins s σ H Q I h => ?_⟩
  have ho : PE X (.Name g p1) (tC (.ref d)) := pe_glob hg hm rfl hdb
  refine wpAny_Call_method rfl (few_one na) hl PySem.F.plainAttrs_dict PySem.F.slot_dict_get PySem.F.type_dict_get (thn (ho.run pins s σ H (fun v H1 => v = .ref d ∧ H1 = H) I ⟨rfl, rfl⟩) fun u s1 ⟨x, H1, I1, rx, ex, eH⟩ => ?_)
  subst ex
  rw [eH] at I1
  obtain rfl : u = Value.ref d := rx
  refine ⟨kd_type D I1, fun b q => by cases q; exact ⟨_, I1.kIn _ _ D.at_, rfl⟩, ?_⟩
  have tr : backTo cp (starEach [a] X.env) = [(false, eval a X.env)] := by
    rw [star_cons na]
    rfl
  rw [tr]
  obtain ⟨F, st, k, w⟩ := h
  have w' : tD X.K EC W (frz m) σ H (fun v H1 => ∃ s1, (∃ dd, AftD X.K F st σ H dd s1 v H1 ∧ Wp X.K EC W F st σ H (lift (cgetD tab dd) s1) fun r s' => ∀ v H', AftS X.K F st σ H r s' v H' → Q v H')) := ⟨F, st, k, w.bind.mono fun dd s2 hd v H1 ad => ⟨s2, dd, ad, hd⟩⟩
  refine Calls.callWith_builtin rfl (Calls.evalArgs_plain (Calls.spliced_cons (thn ((pe_frz ha).run pins s1 σ H _ I1 w') fun iv s2 ⟨y, H2, I2, ry, s3, dd, ad, hd⟩ => Calls.spliced_nil ?_)))
  obtain ⟨r, e3, hd⟩ := hd.lift
  cases dd with
  | str z =>
    cases ad.rp
    obtain ⟨t, rfl⟩ := ry
    obtain ⟨r0, e4, e5⟩ := look z
    refine call_meetsIn PySem.F.slot_dict_get (kd_type D I2) PySem.F.entry_dict_get (PySem.F.args_dict_get_2 _ _) (meets_dict_get (strKind X.prog X.w) d (PySem.strKind_is X.prog X.w z t) D.low) ⟨_, PySem.W.mapOf_K (prog := X.prog) I2.kIn D.at_ D.lit, ?_⟩
    rw [PySem.W.find_K D.at_ e4]
    have e3 : some (Sl.sh (match tab.lookup z with
      | some i => .int i
      | none => .none)) = some r := e3
    cases e3
    cases q : tab.lookup z with
    | some i =>
      rw [q] at e5 hd
      obtain ⟨u, rfl, ru⟩ := e5
      exact ⟨.int i, H2, I2.tok _, ru, hd _ _ ⟨ad.ok, ad.fr, .int i⟩⟩
    | none =>
      rw [q] at e5 hd
      subst e5
      exact ⟨.non, H2, I2.tok _, rfl, hd _ _ ⟨ad.ok, ad.fr, .non⟩⟩
  | _ => cases e3
theorem s_cget {g : Str} {tab : List (Str × Int)} {e1 : Ex} (h1 : GoodE EC C k e1) : GoodE EC C k (.cget g tab e1) := fun X W x a c h => by
  unfold chE at h
  split at h
  · rename_i n p m ap l kw cp
    simp only [Bool.and_eq_true, decide_eq_true_eq] at h
    obtain ⟨⟨⟨⟨⟨⟨n1, rfl⟩, rfl⟩, n3⟩, n4⟩, q⟩, hl⟩ := h
    cases kw_nil n1
    obtain ⟨p1, v1, _⟩ := h1 X W x _ c q
    obtain ⟨g1, g2, _⟩ := c.gl n3
    have z : PE X (.Call (.Attribute (.Name g p) "get" ap) [l] [] cp) (tE X.K EC W (evE C (.cget g tab e1))) := E_cget (c.tbl _ _ n4) g1 g2 v1 (plain_star p1) hl
    exact ⟨rfl, z, pt_plain z fun _ => rfl⟩
  · cases h
theorem s_app {e1 : Ex} (h1 : GoodE EC C k e1) : GoodE EC C k (.app i e1) := fun X W x a c h => by
  unfold chE at h
  split at h
  · rename_i n p m ap l kw cp
    simp only [Bool.and_eq_true, decide_eq_true_eq] at h
    obtain ⟨⟨⟨⟨n1, rfl⟩, n3⟩, q⟩, hl⟩ := h
    cases kw_nil n1
    obtain ⟨p1, v1, _⟩ := h1 X W x _ c q
    have z := E_app (EC := EC) (W := W) (c.name (p := p) n3) v1 (plain_star p1) hl
    exact ⟨rfl, z, pt_plain z fun _ => rfl⟩
  · cases h
theorem s_ext {e1 : Ex} (h1 : GoodE EC C k e1) : GoodE EC C k (.ext i e1) := fun X W x a c h => by
  unfold chE at h
  split at h
  · rename_i n p m ap l kw cp
    simp only [Bool.and_eq_true, decide_eq_true_eq] at h
    obtain ⟨⟨⟨⟨n1, rfl⟩, n3⟩, q⟩, hl⟩ := h
    cases kw_nil n1
    obtain ⟨p1, v1, _⟩ := h1 X W x _ c q
    have z := E_ext (EC := EC) (W := W) (c.name (p := p) n3) v1 (plain_star p1) hl
    exact ⟨rfl, z, pt_plain z fun _ => rfl⟩
  · cases h
theorem s_ins {e1 e2 : Ex} (h1 : GoodE EC C k e1) (h2 : GoodE EC C k e2) : GoodE EC C k (.ins i e1 e2) := fun X W x a c h => by
  unfold chE at h
  split at h
  · rename_i n p m ap l1 l kw cp
    simp only [Bool.and_eq_true, decide_eq_true_eq] at h
    obtain ⟨⟨⟨⟨⟨n1, rfl⟩, n3⟩, q1⟩, q2⟩, hl⟩ := h
    cases kw_nil n1
    obtain ⟨p1, v1, _⟩ := h1 X W x _ c q1
    obtain ⟨p2, v2, _⟩ := h2 X W x _ c q2
    have z := E_ins (EC := EC) (W := W) (c.name (p := p) n3) v1 v2 (plain_star p1) (plain_star p2) hl
    exact ⟨rfl, z, pt_plain z fun _ => rfl⟩
  · cases h
theorem bad_ok {e1 : Ex} (h : ∀ x a, chE x e1 a = false) : GoodE EC C k e1 := fun X W x a c q => by
  rw [h] at q
  cases q
theorem s_rev {e1 : Ex} (h1 : GoodE EC C k e1) : GoodE EC C k (.rev e1) := fun X W x a c h => by
  unfold chE at h
  split at h
  · have v1 := (h1 X W x _ c h).2.1
    rename_i l kk p1 p2 p3 pos
    have z : PE X (.Subscript l (.Slice none none (some (.UnaryOp .USub (.Constant (.int 1) kk p1) p2)) p3) pos) (tE X.K EC W ((frz (evE C e1)).bind fun d => lift (rvD d))) := peW (pe_revL (pe_frz v1)) fun σ H Q ⟨F, s, k, w⟩ => ⟨F, s, k, w.bind.mono fun d s1 hd v H1 ad => by
      obtain ⟨r, e, hd⟩ := hd.lift
      cases d with
      | list xs =>
        cases (show some (Sl.ow (.lst xs.reverse)) = some r from e)
        cases ad.rp with
        | lst q1 q2 => exact ⟨_, _, rfl, (hid_le.rdK q1).sqL, fun p hp => hd _ _ ⟨p, rfl, AftW.new ad.ok ad.fr hp q2.reverse⟩⟩
      | _ => cases e⟩
    exact ⟨rfl, z, pt_plain z fun _ => rfl⟩
  · cases h
/-! ### comprehensions -/
structure LcOk (EC : Nat → Addr) (C : Cal) (X : Cx) (W : WX) (src : Src) (tg : Tg) (cd el : Ex) (own : List Nat) (el' t it : Expr) (ifs : List Expr) (scope : Scope) : Prop where
  hi : PI X t it (tSr X.K EC W (evSrc C src))
  ok : BlkOk X.N X.env.scope scope (ownP X.N own)
  hg : ∀ (s : Shared) (H : Hp) (A : Addr) (cl : List (Str × Addr)) (fp : List Addr), PG (X.blk s H scope (compEnvC scope cl A X.env) fp) t (tPut X.K tg)
  ht : ∀ (s : Shared) (H : Hp) (A : Addr) (cl : List (Str × Addr)) (fp : List Addr), PTs (X.blk s H scope (compEnvC scope cl A X.env) fp) ifs (tBo X.K EC WF (testM (evE C cd)))
  he : ∀ (s : Shared) (H : Hp) (A : Addr) (cl : List (Str × Addr)) (fp : List Addr), PE (X.blk s H scope (compEnvC scope cl A X.env) fp) el' (tD X.K EC WF (frz (evE C el)))
  hs : ∀ y, foldedSetIterable it X.env y = pure y
  sub : ∀ j, j ∈ tgIx tg → j ∈ own
theorem ptsW {X : Cx} {l : List Expr} {t t' : TT} (h : PTs X l t) (w : ∀ σ H Q, t' σ H Q → t σ H Q) : PTs X l t' := ⟨fun pins s σ H Q I q => h.run pins s σ H Q I (w _ _ _ q)⟩
theorem lc_parts {src : Src} {tg : Tg} {cd el : Ex} {own : List Nat} {el' t it : Expr} {ifs : List Expr} {scope : Scope} {kk : Int} (h1 : GoodS EC C k src) (h2 : GoodT EC C k tg) (h3 : GoodE EC C k cd) (h4 : GoodE EC C k el) (c : Ctx EC C k X W x)
    (h : (decide (kk = 0) && blkC x.N x.sc scope (ownP x.N own) && chS x src t it && chT (x.blk scope) tg t && ((tgIx tg).all fun i => own.contains i) && (match ifs with
      | [] => isBlT cd
      | [c'] => chE (x.blk scope) cd c'
      | _ => false) && chE (x.blk scope) el el') = true) : kk = 0 ∧ LcOk EC C X W src tg cd el own el' t it ifs scope := by
  simp only [Bool.and_eq_true, decide_eq_true_eq] at h
  obtain ⟨⟨⟨⟨⟨⟨k0, q0⟩, q1⟩, q2⟩, q3⟩, q4⟩, q5⟩ := h
  have ok := c.blkOk q0
  obtain ⟨p1, i1⟩ := h1 X W x t it c q1
  refine ⟨k0, i1, ok, fun s H A cl fp => (h2 _ _ _ t (c.blk ok s H A cl fp) q2).2, fun s H A cl fp => ?_, fun s H A cl fp => pe_frz (h4 _ _ _ el' (c.blk ok s H A cl fp) q5).2.1, plain_fold p1 X.env, fun j hj => ?_⟩
  · split at q4
    · have e : cd = .bl true := by
        unfold isBlT at q4
        split at q4
        · rfl
        · cases q4
      subst e
      refine ptsW pts_nil fun σ H Q ⟨F, s', k', w⟩ => ?_
      have w : ∀ H', AftB X.K F s' σ H s' H' → Q true H' := w
      exact w H ⟨k', Fr.refl⟩
    · exact pts_one (h3 _ _ _ _ (c.blk ok s H A cl fp) q4).2.2
    · cases q4
  · have := List.all_eq_true.mp q3 j hj
    simpa using this
theorem s_lc {src : Src} {tg : Tg} {cd el : Ex} {own : List Nat} (h1 : GoodS EC C k src) (h2 : GoodT EC C k tg) (h3 : GoodE EC C k cd) (h4 : GoodE EC C k el) : GoodE EC C k (.lc src tg cd el own) := fun X W x a c h => by
  unfold chE at h
  split at h
  · rename_i el' t it ifs kk scope pos
    obtain ⟨rfl, P⟩ := lc_parts (own := own) (el' := el') (t := t) (it := it) (ifs := ifs) (scope := scope) (kk := kk) h1 h2 h3 h4 c h
    have z := E_lc (EC := EC) (W := W) (pos := pos) c.calm c.nd P.hi P.ok P.hg P.ht P.he P.hs P.sub
    exact ⟨rfl, z, pt_plain z fun _ => rfl⟩
  · cases h
theorem s_lcl {tg : Tg} {cd el : Ex} {i : Nat} {own : List Nat} (h1 : GoodS EC C k (.seq (.var i))) (h2 : GoodT EC C k tg) (h3 : GoodE EC C k cd) (h4 : GoodE EC C k el) : GoodE EC C k (.lcl i tg cd el own) := fun X W x a c h => by
  unfold chE at h
  split at h
  · rename_i el' t it ifs kk scope pos
    cases it with
    | Name n p1 =>
      have hn : x.var i n = true := by
        simp only [Bool.and_eq_true] at h
        exact h.1.1.1.1.2
      have e1 : chS x (.seq (.var i)) t (.Name n p1) = x.var i n := by
        unfold chS chE
        rfl
      obtain ⟨rfl, P⟩ := lc_parts (own := own) (el' := el') (t := t) (it := .Name n p1) (ifs := ifs) (scope := scope) (kk := kk) h1 h2 h3 h4 c (by rw [e1]; exact h)
      have z := E_lcl (EC := EC) (W := W) (pos := pos) c.calm c.nd (c.name (p := p1) hn) P.ok P.hg P.ht P.he P.hs P.sub
      exact ⟨rfl, z, pt_plain z fun _ => rfl⟩
    | _ =>
      simp only [Bool.and_eq_true, Bool.false_eq_true, and_false, false_and] at h
  · cases h
/-! ### lists -/
theorem s_nil : GoodEs EC C k .nil := fun X W x l c h => by
  unfold chEs at h
  split at h
  · refine ⟨rfl, A_nil, O_nil, fun bs => ?_, trivial, fun a e => (nomatch e), fun a r pos e => (nomatch e), fun a r pos e => (nomatch e)⟩
    cases bs with
    | nil => exact S_nil
    | cons b bs => exact ⟨fun pos pins s σ H Q I ⟨F, t, kk, w⟩ => by exact (show False from w).elim⟩
  · cases h
theorem s_cons {e1 : Ex} {xs : Exs} (h1 : GoodE EC C k e1) (h2 : GoodEs EC C k xs) : GoodEs EC C k (.cons e1 xs) := fun X W x l c h => by
  unfold chEs at h
  split at h
  · rename_i e es
    rw [Bool.and_eq_true] at h
    obtain ⟨p1, v1, t1⟩ := h1 X W x e c h.1
    have es2 := h2 X W x es c h.2
    have n1 := plain_star p1
    have nx : es = [] → xs = .nil := fun z => by
      subst z
      cases xs with
      | nil => rfl
      | cons a b =>
        have q := h.2
        unfold chEs at q
        cases q
    refine ⟨by rw [List.all_cons, n1, es2.pl] <;> rfl, A_cons v1 es2.ds n1, O_cons (opnd_ok h1 c h.1) es2.os n1, fun bs => ?_, ⟨v1, es2.pw⟩, fun a z => ?_, fun a r pos z => ?_, fun a r pos z => ?_⟩
    · cases bs with
      | nil => exact ⟨fun pos pins s σ H Q I ⟨F, t, kk, w⟩ => by exact (show False from w).elim⟩
      | cons b bs => exact S_cons (arg_ok h1 c h.1 b) (es2.as bs) n1
    · cases z
      rw [evT]
      exact v1
    · cases es with
      | nil =>
        cases nx rfl
        exact ⟨E_and1 v1, P_and1 t1⟩
      | cons b rest =>
        obtain ⟨v2, t2⟩ := es2.an b rest pos rfl
        exact ⟨E_and v1 v2, P_and t1 t2⟩
    · cases es with
      | nil =>
        cases nx rfl
        exact ⟨E_or1 v1, P_or1 t1⟩
      | cons b rest =>
        obtain ⟨v2, t2⟩ := es2.or b rest pos rfl
        exact ⟨E_or v1 v2, P_or t1 t2⟩
  · cases h
/-! ### what is walked -/
theorem w_seq {e1 : Ex} (h1 : GoodE EC C k e1) : GoodS EC C k (.seq e1) := fun X W x t a c h => by
  unfold chS at h
  obtain ⟨p1, v1, _⟩ := h1 X W x a c h
  exact ⟨p1, W_seq v1⟩
theorem w_zip {e1 e2 : Ex} (h1 : GoodE EC C k e1) (h2 : GoodE EC C k e2) : GoodS EC C k (.zip e1 e2) := fun X W x t a c h => by
  unfold chS at h
  split at h
  · simp only [Bool.and_eq_true, decide_eq_true_eq] at h
    obtain ⟨⟨⟨⟨n1, n2⟩, n3⟩, q1⟩, q2⟩ := h
    cases kw_nil n1
    obtain ⟨g1, g2⟩ := c.bl n3
    obtain ⟨p1, v1, _⟩ := h1 X W x _ c q1
    obtain ⟨p2, v2, _⟩ := h2 X W x _ c q2
    exact ⟨rfl, W_zip n2 g1 g2 v1 v2 (plain_star p1) (plain_star p2)⟩
  · cases h
theorem w_vals {e1 : Ex} (h1 : GoodE EC C k e1) : GoodS EC C k (.vals e1) := fun X W x t a c h => by
  unfold chS at h
  split at h
  · simp only [Bool.and_eq_true, decide_eq_true_eq] at h
    obtain ⟨⟨⟨⟨n1, rfl⟩, n3⟩, q1⟩, hl⟩ := h
    cases kw_nil n1
    obtain ⟨p1, v1, _⟩ := h1 X W x _ c q1
    exact ⟨rfl, W_vals v1 (att_name n3) hl⟩
  · cases h
theorem w_rvd {e1 : Ex} (h1 : GoodE EC C k e1) : GoodS EC C k (.rvd e1) := fun X W x t a c h => by
  unfold chS at h
  split at h
  · simp only [Bool.and_eq_true, decide_eq_true_eq] at h
    obtain ⟨⟨⟨n1, n2⟩, n3⟩, q1⟩ := h
    cases kw_nil n1
    obtain ⟨g1, g2⟩ := c.bl n3
    obtain ⟨p1, v1, _⟩ := h1 X W x _ c q1
    exact ⟨rfl, W_rvd n2 g1 g2 v1 (plain_star p1)⟩
  · cases h
theorem W_enu {elts : List Expr} {kk : Nat} {tp : Pos} {m : M Sl} (hn : n = "enumerate") (hg : Gl X n) (hm : X.mg n = none) (h : PE X a (tE X.K EC W m)) (n1 : noStar a = true) :
    PI X (.Tuple elts kk tp) (.Call (.Name n p) [a] [] pos) (tSr X.K EC W ((frz m).bind fun x => lift (enuD x))) := by
  subst hn
  refine piW (pi_enuA hg hm (pa_cons (pe_frz h) pa_nil (star_cons n1 _)) (star_cons n1 _)) fun σ H R ⟨F, s, k, w⟩ => ⟨F, s, k, w.bind.mono fun d s1 hd v H1 ad => ?_⟩
  obtain ⟨r, e, hd⟩ := hd.lift
  cases d with
  | list xs =>
    cases (show some (xs.zipIdx.map fun p => PyData.tuple [.int (p.2 : Int), p.1]) = some r from e)
    cases ad.rp with
    | lst q1 q2 => exact ⟨_, _, rfl, .inl ⟨(hid_le.rdK q1).sqL, hd _ _ ad.ok ad.fr (J_enu q1 q2)⟩⟩
  | tuple xs =>
    cases (show some (xs.zipIdx.map fun p => PyData.tuple [.int (p.2 : Int), p.1]) = some r from e)
    cases ad.rp with
    | tup q1 q2 => exact ⟨_, _, rfl, .inr ⟨hid_le.sqT q1, hd _ _ ad.ok ad.fr (J_enuT q1 q2)⟩⟩
  | _ => cases e
theorem w_enu {e1 : Ex} (h1 : GoodE EC C k e1) : GoodS EC C k (.enu e1) := fun X W x t a c h => by
  unfold chS at h
  split at h
  · simp only [Bool.and_eq_true, decide_eq_true_eq] at h
    obtain ⟨⟨⟨n1, n2⟩, n3⟩, q1⟩ := h
    cases kw_nil n1
    obtain ⟨g1, g2⟩ := c.bl n3
    obtain ⟨p1, v1, _⟩ := h1 X W x _ c q1
    exact ⟨rfl, W_enu n2 g1 g2 v1 (plain_star p1)⟩
  · cases h
theorem w_rng {xs : Exs} (h1 : ∀ e, e = xs → True) (g : ∀ e es, xs = .cons e es → GoodE EC C k e) (g2 : ∀ e e2 es, xs = .cons e (.cons e2 es) → GoodE EC C k e2) : GoodS EC C k (.rng xs) := fun X W x t a c h => by
  unfold chS at h
  split at h
  · rename_i n p l kw p2
    simp only [Bool.and_eq_true, decide_eq_true_eq] at h
    obtain ⟨⟨⟨⟨n1, n2⟩, n3⟩, q⟩, hl⟩ := h
    cases kw_nil n1
    obtain ⟨g1, g2'⟩ := c.bl n3
    refine ⟨rfl, ?_⟩
    match l, xs, q, hl with
    | [], xs, q, hl => exact absurd hl (by decide)
    | a :: l, .nil, q, hl => unfold chEs at q; cases q
    | [a], .cons e .nil, q, hl =>
      unfold chEs at q
      rw [Bool.and_eq_true] at q
      obtain ⟨p1, v1, _⟩ := g e .nil rfl X W x a c q.1
      exact W_rng1 n2 g1 g2' v1 (plain_star p1)
    | [a], .cons e (.cons e2 es), q, hl =>
      unfold chEs at q
      rw [Bool.and_eq_true] at q
      have q := q.2
      unfold chEs at q
      cases q
    | [a, b], .cons e .nil, q, hl =>
      unfold chEs at q
      rw [Bool.and_eq_true] at q
      have q := q.2
      unfold chEs at q
      cases q
    | [a, b], .cons e (.cons e2 .nil), q, hl =>
      unfold chEs at q
      rw [Bool.and_eq_true] at q
      obtain ⟨p1, v1, _⟩ := g e _ rfl X W x a c q.1
      have q := q.2
      unfold chEs at q
      rw [Bool.and_eq_true] at q
      obtain ⟨p2, v2, _⟩ := g2 e e2 _ rfl X W x b c q.1
      exact W_rng2 n2 g1 g2' v1 v2 (plain_star p1) (plain_star p2)
    | [a, b], .cons e (.cons e2 (.cons e3 es)), q, hl =>
      unfold chEs at q
      rw [Bool.and_eq_true] at q
      have q := q.2
      unfold chEs at q
      rw [Bool.and_eq_true] at q
      have q := q.2
      unfold chEs at q
      cases q
    | a :: b :: d :: l, xs, q, hl => exact absurd hl (by simp)
  · cases h
/-! ### the whole -/
mutual
theorem sndE (EC : Nat → Addr) (C : Cal) (k : Nat) : ∀ e : Ex, GoodE EC C k e
  | .var _ => s_var
  | .int _ => s_int
  | .str _ => s_str
  | .bl _ => s_bl
  | .non => s_non
  | .glo _ => s_glo
  | .bin _ a b => s_bin (sndE EC C k a) (sndE EC C k b)
  | .neg a => s_neg (sndE EC C k a)
  | .cmp _ a b => s_cmp (sndE EC C k a) (sndE EC C k b)
  | .chain _ _ a b c => s_chain (sndE EC C k a) (sndE EC C k b) (sndE EC C k c)
  | .and es => s_and (sndEs EC C k es)
  | .or es => s_or (sndEs EC C k es)
  | .orv a b => s_orv (sndE EC C k a) (sndE EC C k b)
  | .not a => s_not (sndE EC C k a)
  | .ife a b c => s_ife (sndE EC C k a) (sndE EC C k b) (sndE EC C k c)
  | .ix a b => s_ix (sndE EC C k a) (sndE EC C k b)
  | .dix a b => s_dix (sndE EC C k a) (sndE EC C k b)
  | .dget a b c => s_dget (sndE EC C k a) (sndE EC C k b) (sndE EC C k c)
  | .dtk es => s_dtk (sndEs EC C k es)
  | .cget _ _ e => s_cget (sndE EC C k e)
  | .lset e => s_lset (sndE EC C k e)
  | .sl a b c => s_sl (sndE EC C k a) (sndE EC C k b) (sndE EC C k c)
  | .rev a => s_rev (sndE EC C k a)
  | .tup es => s_tup (sndEs EC C k es)
  | .lst es => s_lst (sndEs EC C k es)
  | .dic _ vs => s_dic (sndEs EC C k vs)
  | .call _ es => s_call (sndEs EC C k es)
  | .bf _ es => s_bf (sndEs EC C k es)
  | .isi a _ => s_isi (sndE EC C k a)
  | .lc s t c e _ => s_lc (sndS EC C k s) (sndT EC C k t) (sndE EC C k c) (sndE EC C k e)
  | .lcl i t c e _ => s_lcl (w_seq s_var) (sndT EC C k t) (sndE EC C k c) (sndE EC C k e)
  | .pop _ e => s_pop (sndE EC C k e)
  | .app _ e => s_app (sndE EC C k e)
  | .ext _ e => s_ext (sndE EC C k e)
  | .ins _ a b => s_ins (sndE EC C k a) (sndE EC C k b)
  | .rfd _ _ es _ => s_rfd fun j => sndEs EC C j es
theorem sndEs (EC : Nat → Addr) (C : Cal) (k : Nat) : ∀ es : Exs, GoodEs EC C k es
  | .nil => s_nil
  | .cons e es => s_cons (sndE EC C k e) (sndEs EC C k es)
theorem sndS (EC : Nat → Addr) (C : Cal) (k : Nat) : ∀ s : Src, GoodS EC C k s
  | .seq e => w_seq (sndE EC C k e)
  | .rng .nil => w_rng (fun _ _ => trivial) (fun _ _ z => nomatch z) (fun _ _ _ z => nomatch z)
  | .rng (.cons e .nil) => w_rng (fun _ _ => trivial) (fun _ _ z => by cases z; exact sndE EC C k e) (fun _ _ _ z => nomatch z)
  | .rng (.cons e (.cons e2 _)) => w_rng (fun _ _ => trivial) (fun _ _ z => by cases z; exact sndE EC C k e) (fun _ _ _ z => by cases z; exact sndE EC C k e2)
  | .zip a b => w_zip (sndE EC C k a) (sndE EC C k b)
  | .enu a => w_enu (sndE EC C k a)
  | .rvd a => w_rvd (sndE EC C k a)
  | .vals a => w_vals (sndE EC C k a)
theorem sndT (EC : Nat → Addr) (C : Cal) (k : Nat) : ∀ t : Tg, GoodT EC C k t
  | .name _ => g_name
  | .tup ts => g_tup (sndTs EC C k ts)
theorem sndTs (EC : Nat → Addr) (C : Cal) (k : Nat) : ∀ ts : Tgs, GoodTs EC C k ts
  | .nil => g_nil
  | .cons t ts => g_cons (sndT EC C k t) (sndTs EC C k ts)
end
end
end Hg
set_option Elab.async false
set_option linter.all false
set_option maxRecDepth 100000
set_option maxHeartbeats 400000
/-! One rule a statement. -/
namespace Hg
open PySem PySem.Spec PyProof.Rows L2 RZ RT
/-! ### what the compiler's order of stores asks -/
def swF (sc : Scope) (value : Expr) (target : Option Expr) : Option Bool := match (match value with
    | .ListComp _ _ s _ | .SetComp _ _ s _ | .DictComp _ _ _ s _ => some s
    | _ => none) with
  | none => some false
  | some scope => match target with
    | none => none
    | some (.Name t pos) => some ((sc.names.lookup t == some .local) && pos.line == value.pos.line && !(scope.names.any fun (n, k) => n == t && (k == .local || k == .cell)))
    | some _ => some false
theorem blockKind_fn {env : Env} (hk : env.scope.kind = .function) : env.blockKind = .function := by
  unfold Env.blockKind
  rw [hk]
  rfl
theorem sw_of {env : Env} {value : Expr} {target : Option Expr} {l : Nat} {b : Bool} (hk : env.scope.kind = .function) (h : swF env.scope value target = some b) : swapsWith value target l env = pure b := by
  have hb := blockKind_fn hk
  unfold swF at h
  unfold swapsWith
  cases value <;> first
    | (cases h; rfl)
    | (cases target with
      | none => cases h
      | some t => cases t <;> first
        | (cases h; rfl)
        | (simp only [Option.some.injEq] at h
           subst h
           simp only [hb]
           rfl))
def isStar : Expr → Bool
  | .Starred .. => true
  | _ => false
def swSt (sc : Scope) (targets : List Expr) (value : Expr) : Option (Option (List Str)) := match targets, value with
  | [.Tuple ts _ _], .Tuple vs _ _ =>
    if !(ts.length == 2 || ts.length == 3) || vs.length != ts.length then some none
    else if vs.any isStar then some none
    else
      let line := (ts.head?.map (·.pos.line)).getD 0
      let names := ts.filterMap fun
        | .Name id pos => if sc.names.lookup id == some .local && pos.line == line then some id else none
        | _ => none
      if names.length != ts.length || names.eraseDups.length != names.length then some none
      else if vs.all (foldedForSure 8) then some none
      else if vs.all (constantsAlone 8) then none
      else some (some names)
  | [.List _ _], _ => none
  | [.Tuple _ _ _], _ => some none
  | [.Name _ _], _ => some none
  | [.Subscript _ _ _], _ => some none
  | _, _ => none
theorem swSt_of {env : Env} {tg value : Expr} {r : Option (List Str)} (hk : env.scope.kind = .function) (h : swSt env.scope [tg] value = some r) : swappedStores [tg] value env = pure r := by
  have hb := blockKind_fn hk
  unfold swSt at h
  split at h
  · rename_i ts k1 p1 vs k2 p2 heq
    cases heq
    unfold swappedStores
    dsimp only
    have e1 : (env.blockKind != ScopeKind.function) = false := by rw [hb]; rfl
    rw [e1, Bool.or_false]
    split at h
    · rename_i c
      cases h
      rw [if_pos c] <;> rfl
    · rename_i c
      rw [if_neg c]
      have e2 : (vs.any fun | .Starred .. => true | _ => false) = vs.any isStar := rfl
      split at h
      · rename_i c2
        cases h
        show (if vs.any isStar = true then _ else _) = _
        rw [if_pos c2] <;> rfl
      · rename_i c2
        show (if vs.any isStar = true then _ else _) = _
        rw [if_neg c2]
        dsimp only at h
        split at h
        · rename_i c3
          cases h
          exact if_pos c3
        · rename_i c3
          refine (if_neg c3).trans ?_
          split at h
          · rename_i c4
            cases h
            rw [if_pos c4] <;> rfl
          · rename_i c4
            rw [if_neg c4]
            split at h
            · cases h
            · rename_i c5
              rw [if_neg c5]
              cases h
              rfl
  · cases h
  · rename_i v1 t1 v2 e1 k1 p1 h0 heq
    cases h0
    cases h
    cases v1 <;> first
      | rfl
      | exact (heq _ _ _ rfl).elim
  · rename_i heq
    cases heq
    cases h
    rfl
  · rename_i heq
    cases heq
    cases h
    rfl
  · cases h
section
variable {X : Cx} {EC : Nat → Addr} {W : WX} {P : List Nat} {a b e : Expr} {st : Stmt} {sts : List Stmt} {m ma mb mc : M Sl} {pos p1 p2 : Pos} {n : Str} {i : Nat}
theorem psW {t t' : TS} (h : PS X st t) (w : ∀ D σ H, t' D σ H → t D σ H) : PS X st t' := ⟨fun pins s σ H D I q => h.run pins s σ H D I (w _ _ _ q)⟩
theorem pssW {t t' : TS} (h : PSs X sts t) (w : ∀ D σ H, t' D σ H → t D σ H) : PSs X sts t' := ⟨fun pins s σ H D I q => h.run pins s σ H D I (w _ _ _ q)⟩
theorem asg_use {K : PySem.W.Frag} {F : NS} {s s1 : S} {σ : L2.St} {H H1 : Hp} {D : Ends} {r : Sl} {v : V} (k : StOk K F s σ H) (a : AftS K F s σ H r s1 v H1) (w : WpS K EC W P F s σ H (nx (asgM P i r) s1) (AftF K P F s σ H D)) : D.nx (σ.set i (some v)) H1 := by
  by_cases hp : i ∈ P
  · have e : asgM P i r = bad := if_pos hp
    rw [e] at w
    exact (show False from w).elim
  · have e : asgM P i r = setS i r := if_neg hp
    rw [e] at w
    by_cases hi : i < s1.length
    · have e2 : setS i r s1 = .ok () (s1.set i r) := if_pos hi
      have w : WpS K EC W P F s σ H ((setS i r s1).bind fun _ s' => R.ok Fl.nx s') (AftF K P F s σ H D) := w
      rw [e2] at w
      exact w _ _ (k.putS a hi hp)
    · have e2 : setS i r s1 = .bad := if_neg hi
      have w : WpS K EC W P F s σ H ((setS i r s1).bind fun _ s' => R.ok Fl.nx s') (AftF K P F s σ H D) := w
      rw [e2] at w
      exact w.elim
theorem S_set (hN : X.N.Nodup) (hi : X.N[i]? = some n) (hx : Loc X.env.scope n) (he : PE X e (tE X.K EC W m)) (hs : swapsWith e (some (.Name n p1)) pos.line X.env = pure false) (hf : X.fn n = true ∨ X.env.scope.names.lookup n = some .local) :
    PS X (.Assign [.Name n p1] e pos) (tS X.K EC W P (m.bind fun r => nx (asgM P i r))) := psW (ps_set hN hi hx he hs hf) fun D σ H ⟨F, s, k, w⟩ =>
  ⟨F, s, k, w.bind.toE.mono fun r s1 hr v H1 a => asg_use k a hr⟩
theorem S_setLc {elt t it : Expr} {ifs : List Expr} {scope : Scope} {own : List Nat} {tg : Tg} {mt : M Bool} {me : M D} {src : M (List D)} (hc : X.calm = true) (hN : X.N.Nodup) (hi : X.N[i]? = some n) (hyl : X.env.scope.names.lookup n = some .local)
    (hsw : swapsWith (.ListComp elt [⟨t, it, ifs, 0⟩] scope p2) (some (.Name n p1)) pos.line X.env = pure true) (hI : PI X t it (tSr X.K EC W src)) (ok : BlkOk X.N X.env.scope scope (ownP X.N own))
    (hg : ∀ (s : Shared) (H : Hp) (C : Addr) (cl : List (Str × Addr)) (fp : List Addr), PG (X.blk s H scope (compEnvC scope cl C X.env) fp) t (tPut X.K tg))
    (ht : ∀ (s : Shared) (H : Hp) (C : Addr) (cl : List (Str × Addr)) (fp : List Addr), PTs (X.blk s H scope (compEnvC scope cl C X.env) fp) ifs (tBo X.K EC WF mt))
    (he : ∀ (s : Shared) (H : Hp) (C : Addr) (cl : List (Str × Addr)) (fp : List Addr), PE (X.blk s H scope (compEnvC scope cl C X.env) fp) elt (tD X.K EC WF me))
    (hs : ∀ x, foldedSetIterable it X.env x = pure x) (hsub : ∀ j, j ∈ tgIx tg → j ∈ own) :
    PS X (.Assign [.Name n p1] (.ListComp elt [⟨t, it, ifs, 0⟩] scope p2) pos) (tS X.K EC W P ((lcM own (lcTurn tg mt me) src).bind fun r => nx (asgM P i r))) :=
  psW (ps_setLc hc hN hi hyl hsw hI ok hg ht he hs) fun D σ H ⟨F, s, k, w⟩ => T_lc hsub ⟨F, s, k, w.bind.toE.mono fun r s1 hr v H1 a => asg_use k a hr⟩
/-! ### targets never err -/
mutual
theorem putT_err : ∀ (t : Tg) (d : D) (s s' : S) (u : Er), putT t d s ≠ .err u s'
  | .name i, d, s, s', u, h => by
    have h : setS i (.sh d) s = .err u s' := h
    unfold setS at h
    split at h <;> cases h
  | .tup ts, .tuple ds, s, s', u, h => putTs_err ts ds s s' u h
  | .tup ts, .list ds, s, s', u, h => putTs_err ts ds s s' u h
  | .tup ts, .none, s, s', u, h => by cases (show R.bad = .err u s' from h)
  | .tup ts, .bool _, s, s', u, h => by cases (show R.bad = .err u s' from h)
  | .tup ts, .int _, s, s', u, h => by cases (show R.bad = .err u s' from h)
  | .tup ts, .str _, s, s', u, h => by cases (show R.bad = .err u s' from h)
  | .tup ts, .dict _, s, s', u, h => by cases (show R.bad = .err u s' from h)
theorem putTs_err : ∀ (ts : Tgs) (ds : List D) (s s' : S) (u : Er), putTs ts ds s ≠ .err u s'
  | .nil, [], s, s', u, h => by cases (show R.ok () s = .err u s' from h)
  | .nil, _ :: _, s, s', u, h => by cases (show R.bad = .err u s' from h)
  | .cons _ _, [], s, s', u, h => by cases (show R.bad = .err u s' from h)
  | .cons t ts, d :: ds, s, s', u, h => by
    have h : (putT t d s).bind (fun _ s1 => putTs ts ds s1) = .err u s' := h
    cases q : putT t d s with
    | bad => rw [q] at h; cases h
    | err u' s1 => exact putT_err t d s s1 u' q
    | ok a s1 =>
      rw [q] at h
      exact putTs_err ts ds s1 s' u h
end
mutual
theorem okT_ix : ∀ {t : Tg}, okT P t = true → ∀ j, j ∈ tgIx t → j ∉ P
  | .name i, h, j, hj => by
    have h : decide (i ∉ P) = true := h
    rw [List.mem_singleton.mp (show j ∈ [i] from hj)]
    exact of_decide_eq_true h
  | .tup ts, h, j, hj => okTs_ix (ts := ts) h j hj
theorem okTs_ix : ∀ {ts : Tgs}, okTs P ts = true → ∀ j, j ∈ tgsIx ts → j ∉ P
  | .nil, h, j, hj => by cases hj
  | .cons t ts, h, j, hj => by
    have h : (okT P t && okTs P ts) = true := h
    rw [Bool.and_eq_true] at h
    rcases List.mem_append.mp (show j ∈ tgIx t ++ tgsIx ts from hj) with hj | hj
    · exact okT_ix h.1 j hj
    · exact okTs_ix h.2 j hj
end
/-- stores by a target -/
theorem put_use {K : PySem.W.Frag} {F : NS} {s s1 : S} {σ σ0 : L2.St} {H H1 : Hp} {t : Tg} {d : D} {v : V} {α : Type} {f : Unit → M α} {Φ : α → S → Prop} (ho : okT P t = true) (k1 : StOk K F s1 σ H1) (r : Rp K (Hid (Nn F s1 σ) H1) v d)
    (w : WpS K EC W P F s σ0 H (((putT t d).bind f) s1) Φ) : ∃ s2, putT t d s1 = .ok () s2 ∧ WpS K EC W P F s σ0 H (f () s2) Φ ∧ ∀ σ2, AftT K F s1 σ H1 (tgIx t) s2 σ2 H1 → AftN K P F s1 σ H1 s2 σ2 H1 := by
  have w := w.bind
  cases q : putT t d s1 with
  | bad => rw [q] at w; exact w.elim
  | err u s' => exact absurd q (putT_err t d s1 s' u)
  | ok a s2 =>
    rw [q] at w
    exact ⟨s2, rfl, w, fun σ2 at_ => ⟨at_.ok, at_.fr, at_.len, fun j hj => at_.out j fun z => okT_ix ho j z hj⟩⟩
theorem S_tup {t : Tg} {tg : Expr} (he : PE X e (tE X.K EC W m)) (hg : PG X tg (tPut X.K t)) (hs : swapsWithSole [tg] e pos.line X.env = pure false) (hw : swappedStores [tg] e X.env = pure none) (h1 : (assignEach [tg] X.env).map (·.2) = [assign tg X.env]) :
    PS X (.Assign [tg] e pos) (tS X.K EC W P (if okT P t then (frz m).bind fun d => nx (putT t d) else bad)) := psW (ps_asg (pe_frz he) hg hs hw h1) fun D σ H ⟨F, s, k, w⟩ => by
  by_cases ho : okT P t = true
  · rw [if_pos ho] at w
    refine ⟨F, s, k, w.bind.toE.mono fun d s1 hd v H1 a => ?_⟩
    have hd : WpS X.K EC W P F s σ H (((putT t d).bind fun _ => M.pure Fl.nx) s1) (AftF X.K P F s σ H D) := hd
    obtain ⟨s2, e1, w2, hT⟩ := put_use ho a.ok a.rp hd
    exact ⟨F, s1, d, a.ok, a.rp, s2, e1, fun σ' at_ => w2 _ _ ((AftN.of a.ok a.fr).trans (hT σ' at_))⟩
  · rw [if_neg ho] at w
    exact w.elim
theorem Wp.unbind {α β : Type} {K : PySem.W.Frag} {F : NS} {s s1 : S} {σ : L2.St} {H : Hp} {m : M α} {f : α → M β} {Φ : β → S → Prop} (h : Wp K EC W F s σ H (m s1) fun a s2 => Wp K EC W F s σ H (f a s2) Φ) : Wp K EC W F s σ H ((m.bind f) s1) Φ := by
  have e : (m.bind f) s1 = (m s1).bind fun a s' => f a s' := rfl
  rw [e]
  cases q : m s1 with
  | bad => rw [q] at h; exact h
  | ok a s' => rw [q] at h; exact h
  | err e s' => rw [q] at h; exact h
/-- x, y = a, b with plain names -/
theorem S_par {j : Nat} {y : Str} {pt pt2 : Pos} {kt k2} (hc : X.calm = true) (hN : X.N.Nodup) (hi : X.N[i]? = some n) (hj : X.N[j]? = some y) (hij : i ≠ j) (hx : X.env.scope.names.lookup n = some .local) (hy : X.env.scope.names.lookup y = some .local)
    (ha : PE X a (tE X.K EC W ma)) (hb : PE X b (tE X.K EC W mb)) (na : noStar a = true) (nb : noStar b = true) (hw : swappedStores [.Tuple [.Name n p1, .Name y p2] kt pt] (.Tuple [a, b] k2 pt2) X.env = pure (some [n, y])) :
    PS X (.Assign [.Tuple [.Name n p1, .Name y p2] kt pt] (.Tuple [a, b] k2 pt2) pos) (tS X.K EC W P (if i ∈ P ∨ j ∈ P then bad else (frz ma).bind fun x => (frz mb).bind fun y => nx ((setS i (.sh x)).bind fun _ => setS j (.sh y)))) :=
  psW (ps_par hc hN hi hj hij hx hy (A_cons ha (A_cons hb A_nil nb) na) hw) fun D σ H ⟨F, s, k, w⟩ => by
    by_cases hp : i ∈ P ∨ j ∈ P
    · rw [if_pos hp] at w
      exact w.elim
    · rw [if_neg hp] at w
      rw [not_or] at hp
      refine ⟨F, s, k, Wp.unbind (w.bind.toE.mono fun x s1 hx1 => Wp.unbind (Wp.unbind (hx1.bind.toE.mono fun y s2 hy2 => ?_)))⟩
      show ∀ vs H', AftDs X.K F s σ H [x, y] s2 vs H' → _
      rintro vs H' ⟨k2, f2, r⟩
      cases r with
      | @cons v vs1 _ _ r1 r =>
        cases r with
        | @cons v2 vs2 _ _ r2 r =>
          cases r
          refine ⟨v, v2, rfl, ?_⟩
          have hy2 : WpS X.K EC W P F s σ H (((setS i (.sh x) s2).bind fun _ s' => setS j (.sh y) s').bind fun _ s' => R.ok Fl.nx s') (AftF X.K P F s σ H D) := hy2
          by_cases hi2 : i < s2.length
          · have e2 : setS i (.sh x) s2 = .ok () (s2.set i (.sh x)) := if_pos hi2
            rw [e2] at hy2
            by_cases hj2 : j < (s2.set i (.sh x)).length
            · have e3 : setS j (.sh y) (s2.set i (.sh x)) = .ok () ((s2.set i (.sh x)).set j (.sh y)) := if_pos hj2
              have hy2 : WpS X.K EC W P F s σ H ((setS j (.sh y) (s2.set i (.sh x))).bind fun _ s' => R.ok Fl.nx s') (AftF X.K P F s σ H D) := hy2
              rw [e3] at hy2
              obtain ⟨k3, f3⟩ := k2.put hi2 r1
              obtain ⟨k4, f4⟩ := k3.put hj2 (Rp.mono f3.le _ _ r2)
              refine hy2 _ _ ⟨k4, (f2.trans f3).trans f4, by rw [List.length_set, List.length_set], fun l hl => ?_⟩
              rw [List.getElem?_set_ne fun (z : j = l) => hp.2 (by rw [z]; exact hl), List.getElem?_set_ne fun (z : i = l) => hp.1 (by rw [z]; exact hl)]
            · have e3 : setS j (.sh y) (s2.set i (.sh x)) = .bad := if_neg hj2
              have hy2 : WpS X.K EC W P F s σ H ((setS j (.sh y) (s2.set i (.sh x))).bind fun _ s' => R.ok Fl.nx s') (AftF X.K P F s σ H D) := hy2
              rw [e3] at hy2
              exact hy2.elim
          · have e2 : setS i (.sh x) s2 = .bad := if_neg hi2
            rw [e2] at hy2
            exact hy2.elim
theorem set_step {α : Type} {K : PySem.W.Frag} {F : NS} {s s2 : S} {σ : L2.St} {H : Hp} {x : Sl} {f : Unit → M α} {Φ : α → S → Prop} (w : WpS K EC W P F s σ H (((setS i x).bind f) s2) Φ) : i < s2.length ∧ WpS K EC W P F s σ H (f () (s2.set i x)) Φ := by
  have w : WpS K EC W P F s σ H ((setS i x s2).bind fun a s' => f a s') Φ := w
  unfold setS at w
  by_cases h : i < s2.length
  · rw [if_pos h] at w
    exact ⟨h, w⟩
  · rw [if_neg h] at w
    exact w.elim
/-- x, y, z = a, b, c with plain names -/
theorem S_par3 {j l : Nat} {y z : Str} {c : Expr} {p3 pt pt2 : Pos} {kt k2} (hc : X.calm = true) (hN : X.N.Nodup) (hi : X.N[i]? = some n) (hj : X.N[j]? = some y) (hl : X.N[l]? = some z) (hij : i ≠ j) (hil : i ≠ l) (hjl : j ≠ l) (hx : X.env.scope.names.lookup n = some .local) (hy : X.env.scope.names.lookup y = some .local)
    (hz : X.env.scope.names.lookup z = some .local) (ha : PE X a (tE X.K EC W ma)) (hb : PE X b (tE X.K EC W mb)) (hd : PE X c (tE X.K EC W mc)) (na : noStar a = true) (nb : noStar b = true) (nc : noStar c = true)
    (hw : swappedStores [.Tuple [.Name n p1, .Name y p2, .Name z p3] kt pt] (.Tuple [a, b, c] k2 pt2) X.env = pure (some [n, y, z])) :
    PS X (.Assign [.Tuple [.Name n p1, .Name y p2, .Name z p3] kt pt] (.Tuple [a, b, c] k2 pt2) pos) (tS X.K EC W P (if i ∈ P ∨ j ∈ P ∨ l ∈ P then bad else (frz ma).bind fun x => (frz mb).bind fun y => (frz mc).bind fun z => nx ((setS i (.sh x)).bind fun _ => (setS j (.sh y)).bind fun _ => setS l (.sh z)))) :=
  psW (ps_par3 hc hN hi hj hl hij hil hjl hx hy hz (A_cons ha (A_cons hb (A_cons hd A_nil nc) nb) na) hw) fun D σ H ⟨F, s, k, w⟩ => by
    by_cases hp : i ∈ P ∨ j ∈ P ∨ l ∈ P
    · rw [if_pos hp] at w
      exact w.elim
    · rw [if_neg hp] at w
      rw [not_or, not_or] at hp
      refine ⟨F, s, k, Wp.unbind (w.bind.toE.mono fun x s1 hx1 => Wp.unbind (Wp.unbind (hx1.bind.toE.mono fun y s2 hy2 => Wp.unbind (Wp.unbind (hy2.bind.toE.mono fun z s3 hz3 => ?_)))))⟩
      show ∀ vs H', AftDs X.K F s σ H [x, y, z] s3 vs H' → _
      rintro vs H' ⟨k2, f2, r⟩
      cases r with
      | @cons v vs1 _ _ r1 r =>
        cases r with
        | @cons v2 vs2 _ _ r2 r =>
          cases r with
          | @cons v3 vs3 _ _ r3 r =>
            cases r
            refine ⟨v, v2, v3, rfl, ?_⟩
            have w3 : WpS X.K EC W P F s σ H (((setS i (.sh x)).bind fun _ => ((setS j (.sh y)).bind fun _ => setS l (.sh z)).bind fun _ => M.pure Fl.nx) s3) (AftF X.K P F s σ H D) := by
              have e : ((setS i (.sh x)).bind fun _ => ((setS j (.sh y)).bind fun _ => setS l (.sh z)).bind fun _ => M.pure Fl.nx) s3 = (nx ((setS i (.sh x)).bind fun _ => (setS j (.sh y)).bind fun _ => setS l (.sh z))) s3 := by
                show ((setS i (.sh x) s3).bind _) = ((setS i (.sh x) s3).bind _).bind _
                cases setS i (.sh x) s3 <;> rfl
              rw [e]
              exact hz3
            obtain ⟨i3, w3⟩ := set_step w3
            have w3 : WpS X.K EC W P F s σ H (((setS j (.sh y)).bind fun _ => (setS l (.sh z)).bind fun _ => M.pure Fl.nx) (s3.set i (.sh x))) (AftF X.K P F s σ H D) := by
              have e : ((setS j (.sh y)).bind fun _ => (setS l (.sh z)).bind fun _ => M.pure Fl.nx) (s3.set i (.sh x)) = (((setS j (.sh y)).bind fun _ => setS l (.sh z)).bind fun _ => M.pure Fl.nx) (s3.set i (.sh x)) := by
                show ((setS j (.sh y) _).bind _) = ((setS j (.sh y) _).bind _).bind _
                cases setS j (.sh y) (s3.set i (.sh x)) <;> rfl
              rw [e]
              exact w3
            obtain ⟨j3, w3⟩ := set_step w3
            obtain ⟨l3, w3⟩ := set_step w3
            obtain ⟨k3, f3⟩ := k2.put i3 r1
            obtain ⟨k4, f4⟩ := k3.put j3 (Rp.mono f3.le _ _ r2)
            obtain ⟨k5, f5⟩ := k4.put l3 (Rp.mono (f3.trans f4).le _ _ r3)
            refine w3 _ _ ⟨k5, ((f2.trans f3).trans f4).trans f5, by rw [List.length_set, List.length_set, List.length_set], fun m hm => ?_⟩
            rw [List.getElem?_set_ne fun (e : l = m) => hp.2.2 (by rw [e]; exact hm), List.getElem?_set_ne fun (e : j = m) => hp.2.1 (by rw [e]; exact hm), List.getElem?_set_ne fun (e : i = m) => hp.1 (by rw [e]; exact hm)]
theorem WpS.ownO {α : Type} {K : PySem.W.Frag} {F : NS} {s s1 : S} {σ : L2.St} {H : Hp} {i : Nat} {f : Ob → M α} {Φ : α → S → Prop} (w : WpS K EC W P F s σ H (((ownO i).bind f) s1) Φ) : ∃ o, s1[i]? = some (.ow o) ∧ WpS K EC W P F s σ H (f o s1) Φ := by
  have w := w.bind
  unfold Hg.ownO at w
  cases q : s1[i]? with
  | none => rw [q] at w; exact w.elim
  | some z =>
    rw [q] at w
    cases z with
    | un => exact w.elim
    | sh d => exact w.elim
    | ow o => exact ⟨o, rfl, w⟩
/-- a store into a dict whose keys are tuples of whole numbers -/
def rSetE (K : PySem.W.Frag) : TSet := fun o i v H Q => ∃ (N : NS) (p : Addr) (ob : Obj) (xs : Xs) (m : Tb2) (b : Addr) (k : List Int) (d : D), o = .ref p ∧ H p = some (ExO p ob) ∧ DOb p ob xs ∧ RpM K (Hid N H) xs m ∧ i = .ref b ∧ SqT K (Hid N H) b (k.map V.int) ∧ xs.length < sizeLine ∧ Rp K (Hid N H) v d ∧
  ∀ o' ys, DOb p o' ys → RpM K (Hid N H) ys (ptT m k d) → Q (upd H p (ExO p o'))
theorem set_E {X : Cx} (hu : X.A.units + 65 < cLine) : PSet X (rSetE X.K) := by
  intro pins s σ H o i v ov iv u Q I ro ri rv h
  obtain ⟨N, p, ob, xs, m, b, k, d, rfl, hp, dd, r, rfl, sq, hl, rd, q⟩ := h
  cases ro
  cases ri
  exact set_D (v := v) (by omega) I hp dd r (hid_le.sqT sq) hl fun o' s' I' d' => ⟨_, I', q o' _ d' (r.put sq rv rd)⟩
def rSet2 (K : PySem.W.Frag) : TSet := fun o i v H Q => rSetL o i v H Q ∨ rSetE K o i v H Q
theorem set_both {X : Cx} (hu : X.A.units + 65 < cLine) : PSet X (rSet2 X.K) := by
  intro pins s σ H o i v ov iv u Q I ro ri rv h
  rcases h with h | h
  · exact set_list pins s σ H o i v ov iv u Q I ro ri rv h
  · exact set_E hu pins s σ H o i v ov iv u Q I ro ri rv h
/-- xs[q] = e -/
theorem S_six {ix : Expr} {pp : Pos} {mk : M Sl} (hu : X.A.units + 65 < cLine) (he : PE X e (tE X.K EC W m)) (hv : PE X (.Name n p1) (tVar i)) (hk : PE X ix (tE X.K EC W mk)) (hs : swapsWithSole [.Subscript (.Name n p1) ix pp] e pos.line X.env = pure false) (hw : swappedStores [.Subscript (.Name n p1) ix pp] e X.env = pure none)
    (ha : ∀ v, assign (.Subscript (.Name n p1) ix pp) X.env v = (do
      let ov ← holding [v] (eval (.Name n p1) X.env)
      let iv ← holding [v, ov] (eval ix X.env)
      standAt pp
      holding [v, ov, iv] (setItem ov iv v)
      release [v, ov, iv] [])) :
    PS X (.Assign [.Subscript (.Name n p1) ix pp] e pos) (tS X.K EC W P ((frz m).bind fun d => (ownO i).bind fun _ => (frz mk).bind fun q => nx (sixM i q d))) :=
  psW (ps_asg (pe_frz he) (pg_sub hv (pe_frz hk) (set_both hu) ha) hs hw rfl) fun D σ H ⟨F, s, k, w⟩ => ⟨F, s, k, w.bind.toE.mono fun d s1 hd v H1 ad => by
    obtain ⟨o1, e1, hd⟩ := hd.ownO
    obtain ⟨p, ep, _⟩ := ad.ok.ow i _ e1
    refine ⟨.ref p, ep, F, s1, ad.ok, ((hd.on (.of ad.ok ad.fr)).bind.toE).mono fun q s2 hq v2 H2 a2 => ?_⟩
    have hq : WpS X.K EC W P F s1 σ H1 (((ownO i).bind fun o => nx (sixO i q d o)) s2) (AftF X.K P F s σ H D) := by
      have z : (nx (sixM i q d)) s2 = ((ownO i).bind fun o => nx (sixO i q d o)) s2 := by
        show (((ownO i s2).bind _).bind _) = (ownO i s2).bind _
        cases ownO i s2 <;> rfl
      rw [← z]
      exact hq
    obtain ⟨o2, e2, hq⟩ := hq.ownO
    cases o2 with
    | lst ys =>
      cases q with
      | int z =>
        have hq : WpS X.K EC W P F s1 σ H1 ((nx (sixJ i d ys (L2.ixN ys.length z))) s2) (AftF X.K P F s σ H D) := hq
        cases hj : L2.ixN ys.length z with
        | none => rw [hj] at hq; exact (show False from hq).elim
        | some j =>
          rw [hj] at hq
          obtain ⟨p', ep', vs, hp, rv⟩ := a2.ok.ow i _ e2
          rw [ep] at ep'
          cases ep'
          cases a2.rp
          obtain ⟨k3, f3⟩ := a2.ok.lset e2 ep (rv.set (Rp.mono a2.fr.le _ _ ad.rp) j)
          refine .inl ⟨p, vs, z, j, rfl, rfl, hp, by rw [rv.length]; exact hj, ?_⟩
          exact hq _ _ ((AftN.of ad.ok ad.fr).trans ((AftN.of a2.ok a2.fr).trans (AftN.of k3 f3)))
      | _ => exact (show False from hq).elim
    | dic kvs =>
      have hq : WpS X.K EC W P F s1 σ H1 ((nx (sixT i q d kvs)) s2) (AftF X.K P F s σ H D) := hq
      unfold sixT at hq
      cases h1 : tkD q with
      | none => rw [h1] at hq; exact (show False from hq).elim
      | some kk =>
        cases h2 : ktD kvs with
        | none => rw [h1, h2] at hq; exact (show False from hq).elim
        | some m' =>
          rw [h1, h2] at hq
          have hq : WpS X.K EC W P F s1 σ H1 ((nx (if m'.length < sizeLine then setO i (.dic (unT (ptT m' kk d))) else bad)) s2) (AftF X.K P F s σ H D) := hq
          by_cases hl : m'.length < sizeLine
          · rw [if_pos hl] at hq
            obtain ⟨p', ep', ow⟩ := a2.ok.ow i _ e2
            rw [ep] at ep'
            cases ep'
            obtain ⟨p2, o2, xs, ee, hp, dd, r⟩ := (OwAt.rd ow).dct h2
            cases ee
            obtain ⟨b, rfl, sq⟩ := a2.rp.key h1
            have op : Own s2 σ p := ⟨i, _, e2, ep⟩
            refine .inr ⟨Nn F s2 σ, p, o2, xs, m', b, kk, d, rfl, hp, dd, r, rfl, sq, by rw [r.len]; exact hl, Rp.mono a2.fr.le _ _ ad.rp, fun o' ys d' r' => ?_⟩
            obtain ⟨k3, f3⟩ := a2.ok.reput (u := .dic (unT (ptT m' kk d))) (h := ExO p o') e2 ep (.inl ⟨o', ys, upd_same, d', (r'.mono fun b u _ z => by
              obtain ⟨a, z⟩ := hid_iff.mp z
              exact hid_iff.mpr ⟨a, by rw [upd_ne fun (y : b = p) => a (.inr (y ▸ op))]; exact z⟩).toE⟩)
            exact hq _ _ ((AftN.of ad.ok ad.fr).trans ((AftN.of a2.ok a2.fr).trans (AftN.of k3 f3)))
          · rw [if_neg hl] at hq
            exact (show False from hq).elim⟩
/-! ### the rest -/
theorem S_exp (he : PE X e (tE X.K EC W m)) (hs : swapsWith e none pos.line X.env = pure false) : PS X (.Expr e pos) (tS X.K EC W P (m.bind fun _ => M.pure .nx)) := psW (ps_expr he hs) fun D σ H ⟨F, s, k, w⟩ => ⟨F, s, k, w.bind.toE.mono fun r s1 hr v H1 a => by
  have hr : ∀ σ' H', AftN X.K P F s σ H s1 σ' H' → D.nx σ' H' := hr
  cases r with
  | un => exact a.elim
  | sh d => exact hr _ _ (.of (AftD.ok a) (AftD.fr a))
  | ow o =>
    obtain ⟨p, rfl, q⟩ := a
    have z := q.aftD
    exact hr _ _ (.of z.ok z.fr)⟩
theorem ret_use {K : PySem.W.Frag} {F : NS} {s s1 : S} {σ : L2.St} {H H1 : Hp} {D : Ends} {r : Sl} {v : V} (k : StOk K F s σ H) (a : AftS K F s σ H r s1 v H1) (w : AftF K P F s σ H D (.rt r) s1) : D.rt v H1 := w σ H s v H1 (.refl k) a
theorem S_ret (he : PE X e (tE X.K EC W m)) : PS X (.Return (some e) pos) (tS X.K EC W P (m.bind fun r => M.pure (.rt r))) := psW (ps_ret he) fun D σ H ⟨F, s, k, w⟩ => ⟨F, s, k, w.bind.toE.mono fun r s1 hr v H1 a => ret_use k a hr⟩
theorem S_retV (hv : PE X (.Name n p1) (tVar i)) : PS X (.Return (some (.Name n p1)) pos) (tS X.K EC W P ((retM P (.var i) m).bind fun r => M.pure (.rt r))) := psW (ps_ret hv) fun D σ H ⟨F, s, k, w⟩ => by
  have w := w.bind
  have e : retM P (.var i) m s = (match s[i]? with
    | some (.ow o) => if i ∈ P then R.bad else .ok (.ow o) (s.set i .un)
    | some (.sh d) => .ok (.sh d) s
    | _ => .bad) := rfl
  rw [e] at w
  cases q : s[i]? with
  | none => rw [q] at w; exact w.elim
  | some z =>
    rw [q] at w
    cases z with
    | un => exact w.elim
    | sh d =>
      obtain ⟨v, e1, a⟩ := k.get q
      have w : AftF X.K P F s σ H D (.rt (.sh d)) s := w
      exact ⟨v, e1, ret_use k (r := .sh d) a w⟩
    | ow o =>
      by_cases hp : i ∈ P
      · have w : WpS X.K EC W P F s σ H (if i ∈ P then R.bad else R.ok (Sl.ow o) (s.set i .un)) _ := w
        rw [if_pos hp] at w
        exact w.elim
      · have w : WpS X.K EC W P F s σ H (if i ∈ P then R.bad else R.ok (Sl.ow o) (s.set i .un)) _ := w
        rw [if_neg hp] at w
        obtain ⟨p, e1, _⟩ := k.ow i o q
        have w : AftF X.K P F s σ H D (.rt (.ow o)) (s.set i .un) := w
        exact ⟨_, e1, ret_use k (r := .ow o) ⟨p, rfl, k.leave q e1⟩ w⟩
theorem S_retN : PS X (.Return none pos) (tS X.K EC W P (M.pure (.rt (.sh .none)))) := psW ps_retN fun D σ H ⟨F, s, k, w⟩ => by
  have w : AftF X.K P F s σ H D (.rt (.sh .none)) s := w
  exact ret_use k (r := .sh .none) ⟨k, Fr.refl, .non⟩ w
theorem S_ite {ta tb : M Fl} {sa sb : List Stmt} {c : Expr} (hc : PT X c (tBo X.K EC W (testM mc))) (ha : PSs X sa (tS X.K EC W P ta)) (hb : PSs X sb (tS X.K EC W P tb)) : PS X (.If c sa sb pos) (tS X.K EC W P ((testM mc).bind fun k => if k then ta else tb)) :=
  psW (ps_if hc ha hb) fun D σ H ⟨F, s, k, w⟩ => ⟨F, s, k, w.bind.toE.mono fun q s1 hq H1 aq => by
    have hq := (hq.on (.of aq.ok aq.fr)).mono fun f s' z => AftF.on (.of aq.ok aq.fr) z
    cases q with
    | true => exact ⟨F, s1, aq.ok, hq⟩
    | false => exact ⟨F, s1, aq.ok, hq⟩⟩
theorem S_pass : PSs X [] (tS X.K EC W P (M.pure .nx)) := pssW pss_nil fun D σ H ⟨F, s, k, w⟩ => by
  have w : ∀ σ' H', AftN X.K P F s σ H s σ' H' → D.nx σ' H' := w
  exact w σ H (.refl k)
theorem S_seq {t u : M Fl} (h1 : PS X st (tS X.K EC W P t)) (h2 : PSs X sts (tS X.K EC W P u)) : PSs X (st :: sts) (tS X.K EC W P (t.bind fun f => match f with
    | .nx => u
    | .rt r => M.pure (.rt r))) := pssW (pss_cons h1 h2) fun D σ H ⟨F, s, k, w⟩ => ⟨F, s, k, w.bind.mono fun f s1 hf => by
  cases f with
  | nx => exact fun σ' H' a => ⟨F, s1, a.ok, (hf.on a).mono fun f s' z => AftF.on a z⟩
  | rt r => exact fun σ' H1 s1' v H' a b => (show AftF X.K P F s σ H D (.rt r) s1 from hf) σ' H1 s1' v H' a b⟩
theorem S_whl {tb : M Fl} {body : List Stmt} {c : Expr} (hp : PassesOwn (model X.prog X.w) X.A X.env X.xe) (hc : PT X c (tBo X.K EC W (testM mc))) (hb : PSs X body (tS X.K EC W P tb)) : PS X (.While c body [] pos) (tS X.K EC W P (whM (testM mc) tb)) :=
  psW (ps_while hp hc hb) fun D σ H ⟨F, s, k, w⟩ => by
    unfold whM at w
    by_cases h : ∃ n, ¬ (whN (testM mc) tb n s).isBad
    · rw [dif_pos h] at w
      refine ⟨fun m σ1 H1 => ∃ s1, AftN X.K P F s σ H s1 σ1 H1 ∧ WpS X.K EC W P F s σ H (whN (testM mc) tb m s1) (AftF X.K P F s σ H D), ⟨_, s, .refl k, w⟩, ?_⟩
      rintro m σ1 H1 ⟨s1, a1, w1⟩
      cases m with
      | zero => exact (show False from w1).elim
      | succ m =>
        have w1 : WpS X.K EC W P F s σ H (((testM mc).bind fun k => if k then tb.bind fun f => (match f with
          | .nx => whN (testM mc) tb m
          | .rt r => M.pure (.rt r)) else M.pure .nx) s1) (AftF X.K P F s σ H D) := w1
        refine ⟨F, s1, a1.ok, ((w1.bind.on a1).toE).mono fun q s2 hq H2 aq => ?_⟩
        have a2 := AftN.of (P := P) aq.ok aq.fr
        cases q with
        | true =>
          rw [if_pos rfl] at hq
          refine ⟨fun σ' H' => ∃ s1, AftN X.K P F s σ H s1 σ' H' ∧ WpS X.K EC W P F s σ H (whN (testM mc) tb m s1) (AftF X.K P F s σ H D), fun σ' H' z => ⟨m, Nat.lt_succ_self m, z⟩, F, s2, aq.ok, (hq.bind.on (a1.trans a2)).mono fun f s3 hf => ?_⟩
          cases f with
          | nx => exact fun σ' H' a => ⟨s3, (a1.trans a2).trans a, hf⟩
          | rt r => exact fun σ' H1 s1' v H' a b => (show AftF X.K P F s σ H D (.rt r) s3 from hf) σ' H1 s1' v H' ((a1.trans a2).trans a) b
        | false =>
          rw [if_neg (by decide)] at hq
          exact (show AftF X.K P F s σ H D .nx s2 from hq) σ1 H2 (a1.trans a2)
    · rw [dif_neg h] at w
      exact w.elim
theorem S_fo {src : M (List D)} {t : Tg} {tb : M Fl} {tg it : Expr} {body : List Stmt} (hp : PassesOwn (model X.prog X.w) X.A X.env X.xe) (hc : X.calm = true) (hi : PI X tg it (tSr X.K EC W src)) (hg : PG X tg (tPut X.K t)) (hb : PSs X body (tS X.K EC W P tb))
    (hs : ∀ x, foldedSetIterable it X.env x = pure x) : PS X (.For tg it body [] pos) (tS X.K EC W P (if okT P t then src.bind fun ds => foGo (fun d => (putT t d).bind fun _ => tb) ds else bad)) := psW (ps_for hp hc hi hg hb hs) fun D σ H ⟨F, s, k, w⟩ => by
  by_cases ho : okT P t = true
  case neg => rw [if_neg ho] at w; exact w.elim
  rw [if_pos ho] at w
  refine ⟨F, s, k, w.bind.toE.mono fun ds s1 hd J H1 k1 f1 hJ => ?_⟩
  have a1 : AftN X.K P F s σ H s1 σ H1 := .of k1 f1
  refine ⟨fun i m σ2 H2 => m = ds.length - i ∧ i ≤ ds.length ∧ ∃ s2, AftN X.K P F s1 σ H1 s2 σ2 H2 ∧ WpS X.K EC W P F s σ H (foGo (fun d => (putT t d).bind fun _ => tb) (ds.drop i) s2) (AftF X.K P F s σ H D),
    ⟨ds.length, by simp, Nat.zero_le _, s1, .refl k1, by rw [List.drop_zero]; exact hd⟩, ?_⟩
  rintro i m σ2 H2 ⟨rfl, hle, s2, a2, w2⟩
  obtain ⟨j1, j2⟩ := hJ _ H2 (fun _ => a2.ok.nn) a2.fr.le i
  cases hget : ds[i]? with
  | none =>
    have hi' : ds.length ≤ i := List.getElem?_eq_none_iff.mp hget
    rw [List.drop_eq_nil_of_le hi'] at w2
    exact .inl ⟨j2 hget, (show AftF X.K P F s σ H D .nx s2 from w2) _ _ (a1.trans a2)⟩
  | some d =>
    obtain ⟨jg, jy⟩ := j1 d hget
    have hlt : i < ds.length := (List.getElem?_eq_some_iff.mp hget).1
    rw [get_drop hget] at w2
    have w2 : WpS X.K EC W P F s σ H ((((putT t d).bind fun _ => tb).bind fun f => match f with
      | .nx => foGo (fun d => (putT t d).bind fun _ => tb) (ds.drop (i + 1))
      | .rt r => M.pure (.rt r)) s2) (AftF X.K P F s σ H D) := w2
    refine .inr ⟨jg, fun σ' H' => ∃ s3, AftN X.K P F s1 σ H1 s3 σ' H' ∧ WpS X.K EC W P F s σ H (foGo (fun d => (putT t d).bind fun _ => tb) (ds.drop (i + 1)) s3) (AftF X.K P F s σ H D),
      fun σ' H' ⟨s3, z1, z2⟩ => ⟨ds.length - (i + 1), by omega, rfl, hlt, s3, z1, z2⟩, fun y H3 hy => ?_⟩
    obtain ⟨hx, rx⟩ := jy y H3 hy
    have kf : AftN X.K P F s2 σ2 H2 s2 σ2 H3 := by
      rcases hx with rfl | ⟨p, u, hp, rfl⟩
      · exact .refl a2.ok
      · exact .of (a2.ok.new hp) (a2.ok.frNew hp)
    obtain ⟨s4, e4, w4, hT⟩ := put_use ho kf.ok rx w2.bind
    refine ⟨F, s2, d, kf.ok, rx, s4, e4, fun σ4 at_ => ?_⟩
    have a4 := (a2.trans kf).trans (hT σ4 at_)
    refine ⟨F, s4, at_.ok, (w4.on (a1.trans a4)).mono fun f s5 hf => ?_⟩
    cases f with
    | nx => exact fun σ' H' a => ⟨s5, a4.trans a, hf⟩
    | rt r => exact fun σ' H1' s1' v H' a b => (show AftF X.K P F s σ H D (.rt r) s5 from hf) σ' H1' s1' v H' ((a1.trans a4).trans a) b
theorem S_rai {c : Nat} {t : L2.St → Hp → XK → Prop} (hc : X.calm = true) (tk : Takes X W) (hm : PMk X e (fun _ H Q => Q (.ref (EC c)) none H)) : PS X (.Raise (some e) none pos) (tS X.K EC W P (fun s => .err ⟨c, none⟩ s)) :=
  psW (ps_raise hc tk hm) fun D σ H ⟨F, s, k, w⟩ => by
    have w : ∀ σ' H' cls d, AftN X.K P F s σ H s σ' H' → ErR EC ⟨c, none⟩ cls d → W cls d σ' H' := w
    exact w σ H _ none (.refl k) ⟨rfl, rfl⟩
end
end Hg
set_option Elab.async false
set_option linter.all false
set_option maxRecDepth 100000
set_option maxHeartbeats 400000
/-! Every statement runs as its term says. -/
namespace Hg
open PySem PySem.Spec PyProof.Rows L2 RZ RT
def isF : Option Bool → Bool
  | some false => true
  | _ => false
def isSm : Option Bool → Bool
  | some _ => true
  | _ => false
def isSn : Option (Option (List Str)) → Bool
  | some none => true
  | _ => false
def isS2 (n y : Str) : Option (Option (List Str)) → Bool
  | some (some [a, b]) => decide (a = n) && decide (b = y)
  | _ => false
def isS3 (n y z : Str) : Option (Option (List Str)) → Bool
  | some (some [a, b, c]) => decide (a = n) && decide (b = y) && decide (c = z)
  | _ => false
def chCst : Cst → Expr → Bool
  | .d .none, .Constant .none _ _ => true
  | .d (.bool b), .Constant (.bool c) _ _ => decide (b = c)
  | .d (.int i), .Constant (.int j) _ _ => decide (i = j)
  | .d (.str i), .Constant (.str j) _ _ => decide (i = j)
  | .emp, .List [] _ => true
  | _, _ => false
def chHd (x : Sx) : Hdl → Stmt → Bool
  | .set i c, .Assign [.Name n _] a _ => x.tgt i n && chCst c a
  | .ret c, .Return (some a) _ => chCst c a
  | _, _ => false
def chHs (x : Sx) : List (Nat × Hdl) → List ExceptHandler → Bool
  | [], [] => true
  | (c, h) :: hs, .ExceptHandler (some (.Name n _)) none [st] _ :: es => decide (x.exn c = some n) && x.glo n && chHd x h st && chHs x hs es
  | _, _ => false
def notL : Ex → Bool
  | .lcl .. => false
  | _ => true
mutual
def chSt (x : Sx) : St → Stmt → Bool
  | .asg t e, st => match st with
    | .Assign [tg] a _ => (match t with
      | .name i => (match tg with
        | .Name n p => x.tgt i n && (notL e && chE x e a) && isSm (swF x.sc a (some (.Name n p)))
        | _ => false)
      | .tup ts => chT x (.tup ts) tg && chE x e a && isF (swF x.sc a (some tg)) && isSn (swSt x.sc [tg] a))
    | _ => false
  | .par i j a b, st => match st with
    | .Assign [.Tuple [.Name n p1, .Name y p2] kt pt] (.Tuple [ea, eb] k2 pt2) _ => x.loc i n && x.loc j y && decide (i ≠ j) && chE x a ea && chE x b eb && isS2 n y (swSt x.sc [.Tuple [.Name n p1, .Name y p2] kt pt] (.Tuple [ea, eb] k2 pt2))
    | _ => false
  | .par3 i j l a b c, st => match st with
    | .Assign [.Tuple [.Name n p1, .Name y p2, .Name z p3] kt pt] (.Tuple [ea, eb, ec] k2 pt2) _ => x.loc i n && x.loc j y && x.loc l z && decide (i ≠ j) && decide (i ≠ l) && decide (j ≠ l) && chE x a ea && chE x b eb && chE x c ec && isS3 n y z (swSt x.sc [.Tuple [.Name n p1, .Name y p2, .Name z p3] kt pt] (.Tuple [ea, eb, ec] k2 pt2))
    | _ => false
  | .six i k e, st => match st with
    | .Assign [.Subscript (.Name n p1) ix pp] a _ => x.var i n && chE x k ix && chE x e a && isF (swF x.sc a (some (.Subscript (.Name n p1) ix pp)))
    | _ => false
  | .exp e, st => match st with
    | .Expr a _ => chE x e a && isF (swF x.sc a none)
    | _ => false
  | .ret e, st => match st with
    | .Return (some a) _ => chE x e a
    | .Return none _ => isNon e
    | _ => false
  | .ite c a b, st => match st with
    | .If ec ea eb _ => chE x c ec && chSts x a ea && chSts x b eb
    | _ => false
  | .whl c b, st => match st with
    | .While ec eb [] _ => chE x c ec && chSts x b eb
    | _ => false
  | .fo sr t b, st => match st with
    | .For tg it eb [] _ => chS x sr tg it && chT x t tg && chSts x b eb
    | _ => false
  | .rai c, st => match st with
    | .Raise (some (.Call (.Name n _) [.Constant (.str _) _ _] kw _)) none _ => kw.isEmpty && decide (x.exn c = some n) && x.glo n
    | _ => false
  | .tr b m hs, st => match st with
    | .Try body (h0 :: es) [] [] _ => chSts x b body && chHs x hs (h0 :: es) && (List.range m).all (fun c => (x.exn c).isSome) && hs.all (fun h => decide (h.1 < m))
    | _ => false
def chSts (x : Sx) : Sts → List Stmt → Bool
  | .nil, l => match l with
    | [] => true
    | _ => false
  | .cons s ss, l => match l with
    | st :: sts => chSt x s st && chSts x ss sts
    | _ => false
end
structure CtxS (EC : Nat → Addr) (C : Cal) (k : Nat) (X : Cx) (W : WX) (x : Sx) : Prop where
  cx : Ctx EC C k X W x
  pass : PassesOwn (model X.prog X.w) X.A X.env X.xe
  exc : ∀ (pn : List (Addr × Obj)) (xe : Value → Shared → Prop) c n, x.exn c = some n → ∀ (m : Str) (j : Nat) (p p2 pos : Pos), Gl X n → (n == ("__debug__" : Str)) = false → PMk (X.tr pn xe) (.Call (.Name n p) [.Constant (.str m) j p2] [] pos) (fun _ H Q => Q (.ref (EC c)) none H)
  st : X.stack = X.env :: X.outer
  fr : X.env.frame = some X.env.locals
  exg : ∀ c n, x.exn c = some n → X.mg n = some (.ref (EC c))
  exm : ∀ c c' n n', x.exn c = some n → x.exn c' = some n' → PySem.W.exmOne X.K (.ref (EC c)) (.ref (EC c')) = some (decide (c = c'))
def GoodSt (EC : Nat → Addr) (C : Cal) (k : Nat) (P : List Nat) (s : St) : Prop := ∀ (X : Cx) (W : WX) (x : Sx) (st : Stmt), CtxS EC C k X W x → chSt x s st = true → PS X st (tS X.K EC W P (evS C P s))
def GoodSts (EC : Nat → Addr) (C : Cal) (k : Nat) (P : List Nat) (s : Sts) : Prop := ∀ (X : Cx) (W : WX) (x : Sx) (st : List Stmt), CtxS EC C k X W x → chSts x s st = true → PSs X st (tS X.K EC W P (evSs C P s))
section
variable {EC : Nat → Addr} {C : Cal} {k : Nat} {P : List Nat} {X : Cx} {W : WX} {x : Sx} {i : Nat} {n : Str}
theorem isF_of {o : Option Bool} (h : isF o = true) : o = some false := by
  unfold isF at h
  split at h
  · rfl
  · cases h
theorem isSn_of {o : Option (Option (List Str))} (h : isSn o = true) : o = some none := by
  unfold isSn at h
  split at h
  · rfl
  · cases h
theorem isS2_of {y : Str} {o : Option (Option (List Str))} (h : isS2 n y o = true) : o = some (some [n, y]) := by
  unfold isS2 at h
  split at h
  · rw [Bool.and_eq_true] at h
    cases of_decide_eq_true h.1
    cases of_decide_eq_true h.2
    rfl
  · cases h
theorem isS3_of {y z : Str} {o : Option (Option (List Str))} (h : isS3 n y z o = true) : o = some (some [n, y, z]) := by
  unfold isS3 at h
  split at h
  · rw [Bool.and_eq_true, Bool.and_eq_true] at h
    cases of_decide_eq_true h.1.1
    cases of_decide_eq_true h.1.2
    cases of_decide_eq_true h.2
    rfl
  · cases h
theorem Ctx.tgt (c : Ctx EC C k X W x) (h : x.tgt i n = true) : X.N[i]? = some n ∧ Loc X.env.scope n ∧ (X.fn n = true ∨ X.env.scope.names.lookup n = some .local) := by
  unfold Sx.tgt at h
  simp only [Bool.and_eq_true, decide_eq_true_eq] at h
  obtain ⟨⟨h1, h2⟩, h3⟩ := h
  have hN : X.N[i]? = some n := by rw [c.nm]; exact h1
  rw [← c.sc] at h2
  split at h2
  · rename_i hl
    exact ⟨hN, .inl hl, .inr hl⟩
  · rename_i hl
    exact ⟨hN, .inr hl, .inl (c.own n h2)⟩
  · cases h2
theorem Ctx.loc (c : Ctx EC C k X W x) (h : x.loc i n = true) : X.N[i]? = some n ∧ X.env.scope.names.lookup n = some .local := by
  unfold Sx.loc at h
  simp only [Bool.and_eq_true, decide_eq_true_eq] at h
  obtain ⟨⟨h1, h2⟩, h3⟩ := h
  rw [← c.sc] at h2
  split at h2
  · rename_i hl
    exact ⟨by rw [c.nm]; exact h1, hl⟩
  · cases h2
theorem swSole {env : Env} {tg e : Expr} {l : Nat} : swapsWithSole [tg] e l env = swapsWith e (some tg) l env := rfl
theorem d_asgN {e : Ex} : GoodSt EC C k P (.asg (.name i) e) := fun X W x st c h => by
  unfold chSt at h
  dsimp only at h
  split at h
  · rename_i tg a pos
    split at h
    · rename_i n p
      rw [Bool.and_eq_true, Bool.and_eq_true] at h
      obtain ⟨⟨q1, q20⟩, q3⟩ := h
      obtain ⟨ql, q2⟩ := Bool.and_eq_true_iff.mp q20
      obtain ⟨t1, t2, t3⟩ := c.cx.tgt q1
      rw [← c.cx.sc] at q3
      cases hsw : swF X.env.scope a (some (.Name n p)) with
      | none => rw [hsw] at q3; cases q3
      | some b =>
        cases b with
        | false => exact S_set c.cx.nd t1 t2 (sndE EC C k e X W x a c.cx q2).2.1 (sw_of c.cx.kd hsw) t3
        | true =>
          cases e with
          | lc src tg cd el own =>
            unfold chE at q2
            split at q2
            · rename_i el' t it ifs kk scope pos2
              obtain ⟨rfl, L⟩ := lc_parts (own := own) (el' := el') (t := t) (it := it) (ifs := ifs) (scope := scope) (kk := kk) (sndS EC C k src) (sndT EC C k tg) (sndE EC C k cd) (sndE EC C k el) c.cx q2
              have hl : X.env.scope.names.lookup n = some .local := by
                have z : some ((X.env.scope.names.lookup n == some .local) && p.line == (Expr.ListComp el' [⟨t, it, ifs, 0⟩] scope pos2).pos.line && !(scope.names.any fun (n', k) => n' == n && (k == .local || k == .cell))) = some true := hsw
                rw [Option.some.injEq, Bool.and_eq_true, Bool.and_eq_true] at z
                have z1 := z.1.1
                revert z1
                cases X.env.scope.names.lookup n with
                | none => intro z; exact absurd z (by decide)
                | some kd => cases kd <;> intro z <;> first | rfl | exact absurd z (by decide)
              exact S_setLc c.cx.calm c.cx.nd t1 hl (sw_of c.cx.kd hsw) L.hi L.ok L.hg L.ht L.he L.hs L.sub
            · cases q2
          | lcl i2 tg cd el own => cases ql
          | _ =>
            exfalso
            clear q20
            revert q2 hsw
            unfold chE
            cases a <;> intro q2 hsw <;> first | (cases q2; done) | (cases hsw; done) | (simp at q2; done)
    · cases h
  · cases h
theorem d_asgT {ts : Tgs} {e : Ex} : GoodSt EC C k P (.asg (.tup ts) e) := fun X W x st c h => by
  unfold chSt at h
  dsimp only at h
  split at h
  · rename_i tg a pos
    simp only [Bool.and_eq_true] at h
    obtain ⟨⟨⟨q1, q2⟩, q3⟩, q4⟩ := h
    rw [← c.cx.sc] at q3 q4
    obtain ⟨n1, g1⟩ := sndT EC C k (.tup ts) X W x tg c.cx q1
    refine S_tup (sndE EC C k e X W x a c.cx q2).2.1 g1 (sw_of c.cx.kd (isF_of q3)) (swSt_of c.cx.kd (isSn_of q4)) ?_
    rw [assign_cons n1]
    rfl
  · cases h
theorem d_par {j : Nat} {a b : Ex} : GoodSt EC C k P (.par i j a b) := fun X W x st c h => by
  unfold chSt at h
  split at h
  · rename_i n p1 y p2 kt pt ea eb k2 pt2 pos
    simp only [Bool.and_eq_true, decide_eq_true_eq] at h
    obtain ⟨⟨⟨⟨⟨q1, q2⟩, q3⟩, q4⟩, q5⟩, q6⟩ := h
    rw [← c.cx.sc] at q6
    obtain ⟨t1, t2⟩ := c.cx.loc q1
    obtain ⟨u1, u2⟩ := c.cx.loc q2
    obtain ⟨m1, v1, _⟩ := sndE EC C k a X W x ea c.cx q4
    obtain ⟨m2, v2, _⟩ := sndE EC C k b X W x eb c.cx q5
    exact S_par c.cx.calm c.cx.nd t1 u1 q3 t2 u2 v1 v2 (plain_star m1) (plain_star m2) (swSt_of c.cx.kd (isS2_of q6))
  · cases h
theorem d_par3 {j l : Nat} {a b e : Ex} : GoodSt EC C k P (.par3 i j l a b e) := fun X W x st c h => by
  unfold chSt at h
  split at h
  · rename_i n p1 y p2 z p3 kt pt ea eb ec k2 pt2 pos
    simp only [Bool.and_eq_true, decide_eq_true_eq] at h
    obtain ⟨⟨⟨⟨⟨⟨⟨⟨⟨q1, q2⟩, q3⟩, q4⟩, q5⟩, q6⟩, q7⟩, q8⟩, q9⟩, q10⟩ := h
    rw [← c.cx.sc] at q10
    obtain ⟨t1, t2⟩ := c.cx.loc q1
    obtain ⟨u1, u2⟩ := c.cx.loc q2
    obtain ⟨w1, w2⟩ := c.cx.loc q3
    obtain ⟨m1, v1, _⟩ := sndE EC C k a X W x ea c.cx q7
    obtain ⟨m2, v2, _⟩ := sndE EC C k b X W x eb c.cx q8
    obtain ⟨m3, v3, _⟩ := sndE EC C k e X W x ec c.cx q9
    exact S_par3 c.cx.calm c.cx.nd t1 u1 w1 q4 q5 q6 t2 u2 w2 v1 v2 v3 (plain_star m1) (plain_star m2) (plain_star m3) (swSt_of c.cx.kd (isS3_of q10))
  · cases h
/-! ### try -/
/-- within a try's body -/
theorem CtxS.tr {W' : WX} (c : CtxS EC C k X W x) {pn : List (Addr × Obj)} {xe : Value → Shared → Prop} (tk : Takes (X.tr pn xe) W') (hp : PassesOwn (model X.prog X.w) X.A X.env xe) : CtxS EC C k (X.tr pn xe) W' x := by
  refine ⟨⟨c.cx.sc, c.cx.nm, c.cx.kd, c.cx.nd, c.cx.calm, tk, c.cx.room, c.cx.un, c.cx.free, fun f n h => c.cx.fn f n h, c.cx.con, c.cx.own, fun h => c.cx.lam h, fun h run hr r ks n a b => ?_, fun h run hr => c.cx.lw h run hr, c.cx.tbl⟩, hp, c.exc, c.st, c.fr, c.exg, c.exm⟩
  obtain ⟨y, g, pg, bg, sg, dV, kV, doc, pm, cdv, ct, oc, an, od, osl, Ng, R⟩ := c.cx.rf h run hr r ks n a b
  exact ⟨y, g, pg, bg, sg, dV, kV, doc, pm, cdv, ct, oc, an, od, osl, Ng, ⟨R.hm, R.hk, R.lk, R.hc, R.hb, R.hS, R.hN, R.hv, R.hd, R.hcd, R.hG⟩⟩
def cstV : D → V
  | .bool b => .bl b
  | .int i => .int i
  | .str s => .str s
  | _ => .non
def tCst : Cst → TE
  | .d d => tC (cstV d)
  | .emp => tLst tNil
theorem cst_ok {Y : Cx} {cs : Cst} {a : Expr} (h : chCst cs a = true) : PE Y a (tCst cs) ∧ swF Y.env.scope a (some a) = some false := by
  unfold chCst at h
  split at h
  · exact ⟨pe_non, rfl⟩
  · cases of_decide_eq_true h
    exact ⟨pe_bl, rfl⟩
  · cases of_decide_eq_true h
    exact ⟨pe_int, rfl⟩
  · cases of_decide_eq_true h
    exact ⟨pe_str, rfl⟩
  · exact ⟨pe_lst pa_nil, rfl⟩
  · cases h
theorem cst_sw {cs : Cst} {a : Expr} (h : chCst cs a = true) (tg : Expr) (l : Nat) (env : Env) : swapsWith a (some tg) l env = pure false := by
  unfold chCst at h
  split at h <;> first | rfl | (cases h)
/-- what behind a suite is asked -/
def tH : Hdl → TS
  | .set i c => tAsg (tCst c) (gName i)
  | .ret c => tRet (tCst c)
theorem hd_ok {Y : Cx} {x : Sx} {h : Hdl} {st : Stmt} (hN : Y.N.Nodup) (ht : ∀ i n, x.tgt i n = true → Y.N[i]? = some n ∧ Loc Y.env.scope n ∧ (Y.fn n = true ∨ Y.env.scope.names.lookup n = some .local)) (q : chHd x h st = true) : PSs Y [st] (tH h) := by
  unfold chHd at q
  split at q
  · rename_i i c n p a p2
    rw [Bool.and_eq_true] at q
    obtain ⟨t1, t2, t3⟩ := ht i n q.1
    exact pss_one (ps_set hN t1 t2 (cst_ok q.2).1 (cst_sw q.2 _ _ _) t3)
  · exact pss_one (ps_ret (cst_ok q).1)
  · cases q
theorem rp_cst {K : PySem.W.Frag} {H : Hp} {d : D} {a : Expr} (h : chCst (.d d) a = true) : Rp K H (cstV d) d := by
  unfold chCst at h
  split at h <;> first | (rename_i e; cases e; first | exact .non | exact .bl _ | exact .int _ | exact .str _) | (rename_i e; cases e) | (cases h)
theorem cst_aft {F : NS} {s : S} {σ : L2.St} {H : Hp} {cs : Cst} {a : Expr} {Q : VK} (h : chCst cs a = true) (k : StOk X.K F s σ H) (w : ∀ v H', AftS X.K F s σ H cs.sl s v H' → Q v H') : tCst cs σ H Q := by
  cases cs with
  | d d => exact w _ H ⟨k, Fr.refl, rp_cst h⟩
  | emp => exact ⟨by decide, fun p hp => w _ _ ⟨p, rfl, AftW.new k Fr.refl hp .nil⟩⟩
theorem h_use {F : NS} {s s' : S} {σ σ' : L2.St} {H H' : Hp} {D : Ends} {h : Hdl} {st : Stmt} (q : chHd x h st = true) (a : AftN X.K P F s σ H s' σ' H') (w : WpS X.K EC W P F s σ H (runH P h s') (AftF X.K P F s σ H D)) : tH h D σ' H' := by
  unfold chHd at q
  split at q
  · rename_i i c n p e p2
    rw [Bool.and_eq_true] at q
    have w : WpS X.K EC W P F s' σ' H' (nx (asgM P i c.sl) s') (AftF X.K P F s' σ' H' D) := (w.on a).mono fun f s2 z => AftF.on a z
    exact cst_aft q.2 a.ok fun v H2 z => asg_use a.ok z w
  · rename_i c e p2
    have w : AftF X.K P F s' σ' H' D (.rt c.sl) s' := AftF.on a (show AftF X.K P F s σ H D (.rt c.sl) s' from w)
    exact cst_aft q a.ok fun v H2 z => ret_use a.ok z w
  · cases q
theorem hs_ok (c : CtxS EC C k X W x) : ∀ {hs : List (Nat × Hdl)} {es : List ExceptHandler}, chHs x hs es = true → HdsOk X es (hs.map fun h => (Value.ref (EC h.1), fun _ _ _ => tH h.2))
  | [], [], _ => .nil
  | (cc, h) :: hs, e :: es, q => by
    unfold chHs at q
    split at q
    · rename_i e1 e2
      cases e1
    · rename_i c1 h1 hs1 n p st p2 es1 e1 e2
      cases e1
      cases e2
      simp only [Bool.and_eq_true, decide_eq_true_eq] at q
      obtain ⟨⟨⟨q1, q2⟩, q3⟩, q4⟩ := q
      obtain ⟨g1, g2, _⟩ := c.cx.gl q2
      refine .cons ⟨g1, g2, .inl (c.exg cc n q1)⟩ (fun a oe cls d pn _ _ => hd_ok (Y := X.suite a ((a, oe) :: pn)) c.cx.nd (fun i n z => c.cx.tgt z) q3) (hs_ok c q4)
    · cases q
  | [], _ :: _, q => by cases q
  | (_, _) :: _, [], q => by cases q
theorem many_ok (c : CtxS EC C k X W x) {F : NS} {s s' : S} {σ σ' : L2.St} {H H' : Hp} {D : Ends} {er : Er} {cls : Value} {d : Option Addr} (a : AftN X.K P F s σ H s' σ' H') (eq_ : ErR EC er cls d) {n : Str} (hn : x.exn er.cls = some n) : ∀ {hs : List (Nat × Hdl)} {es : List ExceptHandler}, chHs x hs es = true →
    WpS X.K EC W P F s σ H (match hs.lookup er.cls with
      | some h => runH P h s'
      | none => .err er s') (AftF X.K P F s σ H D) → wMany X.K W D (hs.map fun h => (Value.ref (EC h.1), fun _ _ _ => tH h.2)) cls d σ' H'
  | [], [], _, w => (show ∀ (σ' : L2.St) (H' : Hp) (cls : Value) (d : Option Addr), AftN X.K P F s σ H s' σ' H' → ErR EC er cls d → W cls d σ' H' from w) σ' H' cls d a eq_
  | (cc, h) :: hs, e :: es, q, w => by
    unfold chHs at q
    split at q
    · rename_i e1 e2
      cases e1
    · rename_i c1 h1 hs1 n1 p st p2 es1 e1 e2
      cases e1
      cases e2
      simp only [Bool.and_eq_true, decide_eq_true_eq] at q
      obtain ⟨⟨⟨q1, q2⟩, q3⟩, q4⟩ := q
      rw [List.lookup_cons] at w
      refine ⟨decide (er.cls = cc), by rw [eq_.1]; exact c.exm _ _ _ _ hn q1, fun z b _ => ?_, fun z => ?_⟩
      · have z := of_decide_eq_true z
        have e0 : (er.cls == cc) = true := by rw [z]; exact beq_self_eq_true cc
        rw [e0] at w
        exact h_use q3 a w
      · have z := of_decide_eq_false z
        have e0 : (er.cls == cc) = false := by simpa using z
        rw [e0] at w
        exact many_ok c a eq_ hn q4 w
    · cases q
  | [], _ :: _, q, _ => by cases q
  | (_, _) :: _, [], q, _ => by cases q
theorem d_tr {b : Sts} {m : Nat} {hs : List (Nat × Hdl)} (hb : GoodSts EC C k P b) : GoodSt EC C k P (.tr b m hs) := fun X W x st c h => by
  unfold chSt at h
  split at h
  · rename_i body h0 es pos
    simp only [Bool.and_eq_true] at h
    obtain ⟨⟨⟨q1, q2⟩, q3⟩, q4⟩ := h
    refine psW (ps_try_many (tb := fun W1 => tS X.K EC W1 P (evSs C P b)) c.st c.fr c.cx.tk (fun W' pn xe tk hp => hb (X.tr pn xe) W' x body (c.tr tk hp) q1) (hs_ok c q2)) fun D σ H ⟨F, s, kk, w⟩ => ⟨F, s, kk, ?_⟩
    have w : WpS X.K EC W P F s σ H (trR P m hs (evSs C P b s)) (AftF X.K P F s σ H D) := w
    cases e : evSs C P b s with
    | bad => rw [e] at w; exact w.elim
    | ok f s' => rw [e] at w; exact w
    | err er s' =>
      rw [e] at w
      have w : WpS X.K EC W P F s σ H (if er.cls < m then (match hs.lookup er.cls with
        | some h => runH P h s'
        | none => .err er s') else .bad) (AftF X.K P F s σ H D) := w
      by_cases hm : er.cls < m
      · rw [if_pos hm] at w
        have z := List.all_eq_true.mp q3 er.cls (List.mem_range.mpr hm)
        obtain ⟨n, hn⟩ := Option.isSome_iff_exists.mp z
        intro σ' H' cls d a er1
        exact many_ok c a er1 hn q2 w
      · rw [if_neg hm] at w
        exact w.elim
  · cases h
theorem d_six {e1 e2 : Ex} : GoodSt EC C k P (.six i e1 e2) := fun X W x st c h => by
  unfold chSt at h
  split at h
  · rename_i n p1 ix pp a pos
    simp only [Bool.and_eq_true] at h
    obtain ⟨⟨⟨q1, q2⟩, q3⟩, q4⟩ := h
    rw [← c.cx.sc] at q4
    obtain ⟨m1, v1, _⟩ := sndE EC C k e1 X W x ix c.cx q2
    have v2 := (sndE EC C k e2 X W x a c.cx q3).2.1
    exact S_six (pos := pos) c.cx.un v2 (c.cx.name q1) v1 (sw_of (l := pos.line) c.cx.kd (isF_of q4)) (swSt_of c.cx.kd (by cases a <;> rfl)) fun v => by cases ix <;> first | rfl | cases m1
  · cases h
theorem d_exp {e : Ex} : GoodSt EC C k P (.exp e) := fun X W x st c h => by
  unfold chSt at h
  split at h
  · rename_i a pos
    rw [Bool.and_eq_true] at h
    have q := h.2
    rw [← c.cx.sc] at q
    exact S_exp (sndE EC C k e X W x a c.cx h.1).2.1 (sw_of c.cx.kd (isF_of q))
  · cases h
theorem d_ret {e : Ex} : GoodSt EC C k P (.ret e) := fun X W x st c h => by
  unfold chSt at h
  split at h
  · rename_i a pos
    have v := (sndE EC C k e X W x a c.cx h).2.1
    cases e with
    | var i =>
      unfold chE at h
      split at h
      · exact S_retV (c.cx.name h)
      · cases h
    | _ => exact S_ret v
  · rename_i pos
    have e1 : e = .non := by
      unfold isNon at h
      split at h
      · rfl
      · cases h
    subst e1
    exact S_retN
  · cases h
theorem d_ite {e : Ex} {a b : Sts} (ha : GoodSts EC C k P a) (hb : GoodSts EC C k P b) : GoodSt EC C k P (.ite e a b) := fun X W x st c h => by
  unfold chSt at h
  split at h
  · rw [Bool.and_eq_true, Bool.and_eq_true] at h
    exact S_ite (sndE EC C k e X W x _ c.cx h.1.1).2.2 (ha X W x _ c h.1.2) (hb X W x _ c h.2)
  · cases h
theorem d_whl {e : Ex} {b : Sts} (hb : GoodSts EC C k P b) : GoodSt EC C k P (.whl e b) := fun X W x st c h => by
  unfold chSt at h
  split at h
  · rw [Bool.and_eq_true] at h
    exact S_whl c.pass (sndE EC C k e X W x _ c.cx h.1).2.2 (hb X W x _ c h.2)
  · cases h
theorem d_fo {sr : Src} {t : Tg} {b : Sts} (hb : GoodSts EC C k P b) : GoodSt EC C k P (.fo sr t b) := fun X W x st c h => by
  unfold chSt at h
  split at h
  · rename_i tg it eb pos
    rw [Bool.and_eq_true, Bool.and_eq_true] at h
    obtain ⟨p1, i1⟩ := sndS EC C k sr X W x tg it c.cx h.1.1
    exact S_fo c.pass c.cx.calm i1 (sndT EC C k t X W x tg c.cx h.1.2).2 (hb X W x _ c h.2) (plain_fold p1 X.env)
  · cases h
theorem d_rai {cc : Nat} : GoodSt EC C k P (.rai cc) := fun X W x st c h => by
  unfold chSt at h
  split at h
  · rename_i n p m j p2 kw pos pos2
    rw [Bool.and_eq_true, Bool.and_eq_true] at h
    obtain ⟨⟨h1, h2⟩, h3⟩ := h
    cases kw_nil h1
    obtain ⟨g1, g2, _⟩ := c.cx.gl h3
    exact S_rai (t := fun _ _ _ => True) c.cx.calm c.cx.tk (c.exc X.pn X.xe cc n (of_decide_eq_true h2) m _ p p2 _ g1 g2)
  · cases h
mutual
theorem sndSt (EC : Nat → Addr) (C : Cal) (k : Nat) (P : List Nat) : ∀ s : St, GoodSt EC C k P s
  | .asg (.name _) _ => d_asgN
  | .asg (.tup _) _ => d_asgT
  | .par _ _ _ _ => d_par
  | .par3 _ _ _ _ _ _ => d_par3
  | .six _ _ _ => d_six
  | .exp _ => d_exp
  | .ret _ => d_ret
  | .ite _ a b => d_ite (sndSts EC C k P a) (sndSts EC C k P b)
  | .whl _ b => d_whl (sndSts EC C k P b)
  | .fo _ _ b => d_fo (sndSts EC C k P b)
  | .rai _ => d_rai
  | .tr b _ _ => d_tr (sndSts EC C k P b)
theorem sndSts (EC : Nat → Addr) (C : Cal) (k : Nat) (P : List Nat) : ∀ s : Sts, GoodSts EC C k P s
  | .nil => fun X W x st c h => by
    unfold chSts at h
    split at h
    · exact S_pass
    · cases h
  | .cons s ss => fun X W x st c h => by
    unfold chSts at h
    split at h
    · rw [Bool.and_eq_true] at h
      exact S_seq (sndSt EC C k P s X W x _ c h.1) (sndSts EC C k P ss X W x _ c h.2)
    · cases h
end
end
end Hg
set_option Elab.async false
set_option linter.all false
set_option maxRecDepth 100000
set_option maxHeartbeats 400000
/-! Defs keep the promises that their runs make. -/
namespace Hg
open PySem PySem.Spec PyProof.Rows L2 RZ RT
section
variable {K : PySem.W.Frag} {EC : Nat → Addr} {F G : NS} {as s s' s1 : S} {vs : List V} {σ' : L2.St} {H H1 H' : Hp} {io : List Bool} {outs : List Ob} {N : List Str}
theorem ioAt_ge : ∀ {n : Nat} {io : List Bool} {j : Nat}, j ∈ ioAt n io → n ≤ j
  | n, [], j, h => by cases h
  | n, true :: r, j, h => by
    rcases List.mem_cons.mp (show j ∈ n :: ioAt (n + 1) r from h) with e | h
    · omega
    · have := ioAt_ge h; omega
  | n, false :: r, j, h => by
    have := ioAt_ge (show j ∈ ioAt (n + 1) r from h)
    omega
theorem outsOf_cons {s : S} {i : Nat} {r : List Nat} {l : List Ob} (h : outsOf s (i :: r) = some l) : ∃ o os, l = o :: os ∧ s[i]? = some (.ow o) ∧ outsOf s r = some os := by
  have h : (match s[i]? with
    | some (.ow o) => (outsOf s r).map (o :: ·)
    | _ => none) = some l := h
  split at h
  · rename_i o q
    obtain ⟨os, e, rfl⟩ := Option.map_eq_some_iff.mp h
    exact ⟨o, os, rfl, q, e⟩
  · cases h
/-- the places of what is handed back -/
theorem outS_at : ∀ {n : Nat} {io : List Bool} {as : List Sl} {outs : List Ob}, goodArgs io as = true → outsOf s' (ioAt n io) = some outs → ∀ (j : Nat) (x : Sl), (outS as outs)[j]? = some x →
    (∃ o o', x = .ow o ∧ s'[n + j]? = some (.ow o) ∧ n + j ∈ ioAt n io ∧ as[j]? = some (.ow o')) ∨ ∃ d, x = .sh d ∧ as[j]? = some (.sh d)
  | n, [], [], outs, _, _, j, x, e => by
    have e : (([] : List Sl))[j]? = some x := e
    simp at e
  | n, true :: bs, .ow u :: as, outs, g, ho, j, x, e => by
    obtain ⟨o, os, rfl, h1, h2⟩ := outsOf_cons (show outsOf s' (n :: ioAt (n + 1) bs) = some outs from ho)
    have e : (Sl.ow o :: outS as os)[j]? = some x := e
    cases j with
    | zero =>
      cases (show some (Sl.ow o) = some x from e)
      exact .inl ⟨o, u, rfl, h1, List.mem_cons_self, rfl⟩
    | succ j =>
      have e : (outS as os)[j]? = some x := by simpa using e
      rcases outS_at (n := n + 1) (show goodArgs bs as = true from g) h2 j x e with ⟨o2, o3, z1, z2, z3, z4⟩ | ⟨d, z1, z2⟩
      · refine .inl ⟨o2, o3, z1, ?_, ?_, by simpa using z4⟩
        · rw [show n + (j + 1) = n + 1 + j by omega]; exact z2
        · rw [show n + (j + 1) = n + 1 + j by omega]; exact List.mem_cons_of_mem _ z3
      · exact .inr ⟨d, z1, by simpa using z2⟩
  | n, false :: bs, .sh u :: as, outs, g, ho, j, x, e => by
    have e : (Sl.sh u :: outS as outs)[j]? = some x := by
      cases outs <;> exact e
    cases j with
    | zero =>
      cases (show some (Sl.sh u) = some x from e)
      exact .inr ⟨u, rfl, rfl⟩
    | succ j =>
      have e : (outS as outs)[j]? = some x := by simpa using e
      rcases outS_at (n := n + 1) (show goodArgs bs as = true from g) (show outsOf s' (ioAt (n + 1) bs) = some outs from ho) j x e with ⟨o2, o3, z1, z2, z3, z4⟩ | ⟨d, z1, z2⟩
      · refine .inl ⟨o2, o3, z1, ?_, ?_, by simpa using z4⟩
        · rw [show n + (j + 1) = n + 1 + j by omega]; exact z2
        · rw [show n + (j + 1) = n + 1 + j by omega]; exact z3
      · exact .inr ⟨d, z1, by simpa using z2⟩
  | n, true :: bs, .sh _ :: as, _, g, _, _, _, _ => by cases g
  | n, true :: bs, .un :: as, _, g, _, _, _, _ => by cases g
  | n, false :: bs, .ow _ :: as, _, g, _, _, _, _ => by cases g
  | n, false :: bs, .un :: as, _, g, _, _, _, _ => by cases g
  | n, [], _ :: _, _, g, _, _, _, _ => by cases g
  | n, true :: _, [], _, g, _, _, _, _ => by cases g
  | n, false :: _, [], _, g, _, _, _, _ => by cases g
theorem start_get {j : Nat} (h : j < vs.length) : (L2.start N vs)[j]? = (vs.map some)[j]? := by
  unfold L2.start
  rw [List.getElem?_append_left (by simpa using h)]
/-- the slots at a def's entry -/
theorem start_ok (k : StOk K F as (vs.map some) H) : StOk K F (startS N.length as) (L2.start N vs) H ∧ Fr F (Nn F as (vs.map some)) H (Nn F (startS N.length as) (L2.start N vs)) H := by
  have hl : as.length = vs.length := by have := k.len; rwa [List.length_map] at this
  refine k.sub ?_ fun j x e hx => ?_
  · unfold startS L2.start
    rw [List.length_append, List.length_append, List.length_map, List.length_replicate, List.length_replicate, hl]
  · unfold startS at e
    by_cases hj : j < as.length
    · rw [List.getElem?_append_left hj] at e
      exact ⟨e, start_get (by omega)⟩
    · rw [List.getElem?_append_right (by omega), List.getElem?_replicate] at e
      split at e
      · cases e
        exact absurd rfl hx
      · cases e
/-- behind the body, told of the arguments -/
theorem back_in (k0 : StOk K F as (vs.map some) H) (g : goodArgs io as = true) (ho : outsOf s' (ioAt 0 io) = some outs) (k' : StOk K G s' σ' H') (f : Fr F (Nn F as (vs.map some)) H (Nn G s' σ') H') (pr : ∀ i ∈ ioAt 0 io, σ'[i]? = (L2.start N vs)[i]?) :
    StOk K G (outS as outs) (vs.map some) H' ∧ Fr F (Nn F as (vs.map some)) H (Nn G (outS as outs) (vs.map some)) H' ∧ Le (Hid (Nn G s' σ') H') (Hid (Nn G (outS as outs) (vs.map some)) H') := by
  have hl : as.length = vs.length := by have := k0.len; rwa [List.length_map] at this
  have at_ := outS_at (n := 0) (s' := s') g ho
  have slot : ∀ {j : Nat} {o : Ob}, (outS as outs)[j]? = some (.ow o) → s'[j]? = some (.ow o) ∧ σ'[j]? = (vs.map some)[j]? := fun {j o} e => by
    rcases at_ j _ e with ⟨o1, o2, z1, z2, z3, z4⟩ | ⟨d, z1, _⟩
    · cases z1
      rw [Nat.zero_add] at z2 z3
      exact ⟨z2, by rw [pr j z3, start_get (by rw [← hl]; exact get_lt z4)]⟩
    · cases z1
  have own : ∀ b, Own (outS as outs) (vs.map some) b → Own s' σ' b := fun b ⟨j, o, e1, e2⟩ => by
    obtain ⟨q1, q2⟩ := slot e1
    exact ⟨j, o, q1, by rw [q2]; exact e2⟩
  have nn : ∀ b, Nn G (outS as outs) (vs.map some) b → Nn G s' σ' b := fun b z => z.imp id (own b)
  have le : Le (Hid (Nn G s' σ') H') (Hid (Nn G (outS as outs) (vs.map some)) H') := fun b u _ z => by
    obtain ⟨a, z⟩ := hid_iff.mp z
    exact hid_iff.mpr ⟨fun y => a (nn b y), z⟩
  have f' : Fr F (Nn F as (vs.map some)) H (Nn G (outS as outs) (vs.map some)) H' := ⟨f.keep, fun b o n t e => let ⟨e1, n1⟩ := f.imm b o n t e; ⟨e1, fun z => n1 (nn b z)⟩⟩
  refine ⟨⟨by rw [outS_len]; exact k0.len, fun j d e => ?_, fun j o e => ?_, fun i j o o' p e e' q q' => ?_, fun b z => k'.ap b (own b z), k'.dom, k'.tb⟩, f', le⟩
  · rcases at_ j _ e with ⟨o1, o2, z1, _⟩ | ⟨d', z1, z2⟩
    · cases z1
    · cases z1
      obtain ⟨v, e1, r⟩ := k0.sh j d z2
      exact ⟨v, e1, Rp.mono f'.le _ _ r⟩
  · obtain ⟨q1, q2⟩ := slot e
    obtain ⟨p, e1, r⟩ := k'.ow j o q1
    exact ⟨p, by rw [← q2]; exact e1, r.mono rfl le⟩
  · obtain ⟨q1, q2⟩ := slot e
    obtain ⟨q3, q4⟩ := slot e'
    exact k'.inj i j o o' p q1 q3 (by rw [q2]; exact q) (by rw [q4]; exact q')
/-- from a def's promise to its body's reading -/
theorem body_of {C : Cal} {fd : Fd} {Q : VK} {E : XK} (k0 : StOk K F as (vs.map some) H)
    (w : Wp K EC (fun cls d _ H' => E cls d H') F as (vs.map some) H (runR (runFd C fd) as) fun r s' => ∀ v H', AftS K F as (vs.map some) H r s' v H' → Q v H') :
    tS K EC (fun cls d _ H' => E cls d H') (ioAt 0 fd.io) (evSs C (ioAt 0 fd.io) fd.body) { nx := fun _ H' => Q .non H', rt := Q } (L2.start fd.N vs) H := by
  obtain ⟨k1, f1⟩ := start_ok (N := fd.N) k0
  refine ⟨F, startS fd.N.length as, k1, ?_⟩
  unfold runR runFd at w
  by_cases g : goodArgs fd.io as = true
  case neg => rw [if_neg g] at w; exact w.elim
  rw [if_pos g] at w
  cases q : evSs C (ioAt 0 fd.io) fd.body (startS fd.N.length as) with
  | bad => rw [q] at w; exact w.elim
  | ok fl s' =>
    rw [q] at w
    cases fl with
    | nx =>
      dsimp only at w
      cases ho : outsOf s' (ioAt 0 fd.io) with
      | none => rw [ho] at w; exact w.elim
      | some outs =>
        rw [ho] at w
        intro σ' H' a
        obtain ⟨k2, f2, _⟩ := back_in k0 g ho a.ok (f1.trans a.fr) a.pr
        exact (show ∀ v H', AftS K F as (vs.map some) H (.sh .none) (outS as outs) v H' → Q v H' from w) .non H' ⟨k2, f2, .non⟩
    | rt r =>
      dsimp only at w
      cases ho : outsOf s' (ioAt 0 fd.io) with
      | none => rw [ho] at w; exact w.elim
      | some outs =>
        rw [ho] at w
        have w : ∀ v H', AftS K F as (vs.map some) H r (outS as outs) v H' → Q v H' := w
        intro σ' H1 s1 v H' a b
        refine w v H' ?_
        cases r with
        | un => exact b.elim
        | sh d =>
          obtain ⟨k2, f2, le⟩ := back_in k0 g ho (AftD.ok b) ((f1.trans a.fr).trans (AftD.fr b)) a.pr
          exact ⟨k2, f2, Rp.mono le _ _ (AftD.rp b)⟩
        | ow o =>
          obtain ⟨p, rfl, z⟩ := b
          have f3 : Fr F (Nn F as (vs.map some)) H (Nn (Ad F p) s' σ') H' := (f1.trans a.fr).trans z.fr
          obtain ⟨k2, f2, le⟩ := back_in k0 g ho z.ok f3 a.pr
          exact ⟨p, rfl, k2, f2, z.nf, z.at_.mono rfl le⟩
  | err u s' =>
    rw [q] at w
    dsimp only at w
    cases ho : outsOf s' (ioAt 0 fd.io) with
    | none => rw [ho] at w; exact w.elim
    | some outs =>
      rw [ho] at w
      intro σ' H' cls d a er
      obtain ⟨k2, f2, _⟩ := back_in k0 g ho a.ok (f1.trans a.fr) a.pr
      exact (show ∀ (H' : Hp) (cls : Value) (d : Option Addr), StOk K F (outS as outs) (vs.map some) H' → Fr F (Nn F as (vs.map some)) H (Nn F (outS as outs) (vs.map some)) H' → ErR EC u cls d → E cls d H' from w) H' cls d k2 f2 er
end
end Hg
set_option Elab.async false
set_option linter.all false
namespace Hg
open PySem PySem.Spec PyProof.Rows L2
def argsB (p : Arguments) (ps : List Str) : Bool := match p with
  | ⟨[], as, none, [], [], none, []⟩ => decide (as.map (·.arg) = ps)
  | _ => false
theorem lookup_zip : ∀ {ps : List Str} {us : List Value} {n : Str}, us.length = ps.length → n ∈ ps → ((ps.zip us).lookup n).isNone = false
  | [], _, n, _, h => by cases h
  | p :: ps, [], n, h, _ => by cases h
  | p :: ps, u :: us, n, h, hn => by
    rw [List.zip_cons_cons, List.lookup_cons]
    by_cases e : (n == p) = true
    · rw [e]; rfl
    · have e2 : (n == p) = false := by simpa using e
      rw [e2]
      rcases List.mem_cons.mp hn with z | z
      · rw [z] at e; simp at e
      · exact lookup_zip (by simpa using h) z
theorem zip_back : ∀ {ps : List Str} {us : List Value}, ps.Nodup → us.length = ps.length → ∀ (slots : List (Str × Value)), (∀ n ∈ ps, slots.lookup n = (ps.zip us).lookup n) → ps.filterMap (fun n => (slots.lookup n).map (n, ·)) = ps.zip us
  | [], _, _, _, _, _ => rfl
  | p :: ps, [], _, h, _, _ => by cases h
  | p :: ps, u :: us, nd, h, sl, hs => by
    obtain ⟨n1, n2⟩ := List.nodup_cons.mp nd
    have e1 := hs p List.mem_cons_self
    rw [List.zip_cons_cons, List.lookup_cons] at e1
    have e2 : (p == p) = true := beq_self_eq_true p
    rw [e2] at e1
    have e1 : sl.lookup p = some u := e1
    rw [List.filterMap_cons, e1, List.zip_cons_cons]
    show (p, u) :: _ = _
    rw [zip_back n2 (by simpa using h) sl fun n hn => ?_]
    rw [hs n (List.mem_cons_of_mem _ hn), List.zip_cons_cons, List.lookup_cons]
    have e3 : (n == p) = false := by
      simp only [beq_eq_false_iff_ne, ne_eq]
      intro z
      exact n1 (z ▸ hn)
    rw [e3]
theorem bind_ok {x qual : Str} {params : Arguments} {body : List Stmt} {scope : Scope} {kV doc pm cdv ct : Value} {an : Option Addr} {ps : List Str} {us : List Value} (h : argsB params ps = true) (nd : ps.Nodup) (hl : us.length = ps.length) :
    bindArgs (PySem.W.fnOf x qual params body scope .none kV doc pm an cdv ct) ⟨us, []⟩ = pure (ps.zip us) := by
  unfold argsB at h
  split at h
  · rename_i as
    have e := of_decide_eq_true h
    subst e
    have l2 : us.length = as.length := by simpa using hl
    have miss : (as.map (·.arg)).filter (fun n => (((as.map (·.arg)).zip us).lookup n).isNone) = [] := by
      rw [List.filter_eq_nil_iff]
      intro n hn
      rw [lookup_zip hl hn]
      decide
    unfold bindArgs
    dsimp [PySem.W.fnOf]
    have e0 : seqItems? Value.none = pure none := rfl
    have zb := zip_back nd hl ((as.map (·.arg)).zip us) fun _ _ => rfl
    rw [e0]
    have tk : List.take as.length (as.map (·.arg)) = as.map (·.arg) := List.take_of_length_le (by simp)
    simp [l2]
    refine (if_neg ?_).trans ?_
    · have hL : ∀ L, L = as.map (·.arg) → ¬ (!(List.filter (fun n => (((as.map (·.arg)).zip us).lookup n).isNone) L).isEmpty) = true := by
        rintro L rfl
        rw [miss]
        decide
      exact hL _ (by simpa using tk)
    · refine congrArg pure ?_
      rw [← List.filterMap_map]
      exact zb
  · cases h
end Hg
set_option Elab.async false
set_option linter.all false
set_option maxRecDepth 100000
set_option maxHeartbeats 400000
/-! The teller of refusals: what its text makes of a lambda's end. -/
namespace Hg
open PySem PySem.Spec PyProof.Rows L2 RZ RT
def rN : List Str := ["call", "error", "e", "kinds", "k"]
def rSx (sc : Scope) : Sx := ⟨sc, rN, ["isinstance", "range", "ValueError"], fun _ => none, fun _ => none, fun _ => true, false, fun _ => none, []⟩
def rLc (m : Nat) : Ex := .lc (.rng (.cons (.int m) .nil)) (.name 4) (.ix (.var 3) (.var 4)) (.var 4) [4]
def rC : Cal := ⟨fun _ => [], fun _ _ => .bad, fun _ => none, none⟩
/-! ### the last row reckoned -/
def rS (n : Nat) (b : Nat → Bool) : S := [.un, .un, .un, .sh (.list ((List.range n).map fun j => .bool (b j))), .un]
theorem r_turn {n j : Nat} {b : Nat → Bool} (h : j < n) : ((putT (.name 4) (.int j)).bind fun _ => (testM (evE rC (.ix (.var 3) (.var 4)))).bind fun k => if k then (frz (evE rC (.var 4))).bind fun x => M.pure (some x) else M.pure none) (rS n b) =
    .ok (if b j then some (.int j) else none) ((rS n b).set 4 (.sh (.int j))) := by
  have e1 : putT (.name 4) (.int j) (rS n b) = .ok () ((rS n b).set 4 (.sh (.int j))) := rfl
  have e2 : evE rC (.ix (.var 3) (.var 4)) ((rS n b).set 4 (.sh (.int j))) = .ok (.sh (.bool (b j))) ((rS n b).set 4 (.sh (.int j))) := by
    show lift ((L2.atI ((List.range n).map fun j => PyData.bool (b j)) (j : Int)).map Sl.sh) _ = _
    rw [atI_nat (v := PyData.bool (b j)) (by rw [List.getElem?_map, List.getElem?_range h]; rfl)]
    rfl
  have e3 : testM (evE rC (.ix (.var 3) (.var 4))) ((rS n b).set 4 (.sh (.int j))) = .ok (b j) ((rS n b).set 4 (.sh (.int j))) := by
    unfold testM frz M.bind
    rw [e2]
    rfl
  show ((putT (.name 4) (.int j) (rS n b)).bind fun _ s => ((testM (evE rC (.ix (.var 3) (.var 4)))) s).bind fun k => if k then (frz (evE rC (.var 4))).bind fun x => M.pure (some x) else M.pure none) = _
  rw [e1]
  show ((testM (evE rC (.ix (.var 3) (.var 4)))) _).bind _ = _
  rw [e3]
  cases b j <;> rfl
theorem r_go {n : Nat} {b : Nat → Bool} : ∀ js : List Nat, (∀ j ∈ js, j < n) → lcGo [4] (fun d => (putT (.name 4) d).bind fun _ => (testM (evE rC (.ix (.var 3) (.var 4)))).bind fun k => if k then (frz (evE rC (.var 4))).bind fun x => M.pure (some x) else M.pure none)
    (js.map fun (j : Nat) => PyData.int (j : Int)) (rS n b) = .ok ((js.filter b).map fun (j : Nat) => PyData.int (j : Int)) (rS n b)
  | [], _ => rfl
  | j :: js, h => by
    have ih := r_go (b := b) js fun i hi => h i (List.mem_cons_of_mem _ hi)
    show (((putT (.name 4) (.int j)).bind fun _ => (testM (evE rC (.ix (.var 3) (.var 4)))).bind fun k => if k then (frz (evE rC (.var 4))).bind fun x => M.pure (some x) else M.pure none) (rS n b)).bind (fun o s1 => (lcGo [4] _ (js.map fun (j : Nat) => PyData.int (j : Int)) (wipeS s1 [4])).bind fun r s2 => R.ok (optCons o r) s2) = _
    rw [r_turn (h j List.mem_cons_self)]
    show (lcGo [4] _ (js.map fun (j : Nat) => PyData.int (j : Int)) (rS n b)).bind _ = _
    rw [ih]
    show R.ok _ _ = _
    cases q : b j <;> simp [optCons, q]
theorem r_rng {n : Nat} (h : n < 1000000) : rngD [.int (n : Int)] = some ((List.range n).map fun (i : Nat) => PyData.int (i : Int)) := by
  unfold rngD
  dsimp only
  rw [if_pos ⟨by omega, by omega⟩, Int.toNat_natCast]
theorem r_src {C : Cal} {e : Ex} {s s1 : S} {i : Int} {ds : List D} (h : evE C e s = .ok (.sh (.int i)) s1) (hr : rngD [.int i] = some ds) : evSrc C (.rng (.cons e .nil)) s = .ok ds s1 := by
  show (((evE C e s).bind fun r s' => lift r.data s').bind fun d s1 => R.ok [d] s1).bind (fun ds s1 => lift (rngD ds) s1) = _
  rw [h]
  show lift (rngD [.int i]) s1 = _
  rw [hr]
  rfl
theorem r_lcM {own : List Nat} {turn : D → M (Option D)} {src : M (List D)} {s s1 s2 : S} {ds xs : List D} (h : src s = .ok ds s1) (hc : (own.all (fun i => notOw (s1.getD i .un)) && decide (ds.length < sizeLine)) = true)
    (hg : lcGo own turn ds (wipeS s1 own) = .ok xs s2) : lcM own turn src s = .ok (.ow (.lst xs)) (backS s1 s2 own) := by
  unfold lcM M.bind
  rw [h]
  show (if _ then _ else _ : R Sl) = _
  rw [if_pos hc, hg]
theorem r_val {n : Nat} (b : Nat → Bool) (hn : n < 1000) : evE rC (rLc n) (rS n b) = .ok (.ow (.lst (((List.range n).filter b).map fun (j : Nat) => .int (j : Int)))) (rS n b) := by
  have hr : rngD [.int (n : Int)] = some ((List.range n).map fun (j : Nat) => PyData.int (j : Int)) := r_rng (by omega)
  have e1 : evSrc rC (.rng (.cons (.int (n : Int)) .nil)) (rS n b) = .ok ((List.range n).map fun (j : Nat) => PyData.int (j : Int)) (rS n b) := r_src rfl hr
  have hl : ((List.range n).map fun (j : Nat) => PyData.int (j : Int)).length < sizeLine := by
    rw [List.length_map, List.length_range]
    exact Nat.lt_of_lt_of_le hn (by decide)
  have z := r_lcM e1 (by rw [Bool.and_eq_true]; exact ⟨rfl, decide_eq_true hl⟩) (r_go (n := n) (b := b) (List.range n) fun j hj => List.mem_range.mp hj)
  exact z
/-! ### the text's shape -/
def isB (n : Str) : Expr → Bool
  | .Call (.Name f _) [.Name y _, .Name c _] kw _ => kw.isEmpty && decide (f = "isinstance") && decide (y = "error") && decide (c = n)
  | _ => false
def isBs (cs : List Str) : Nat → List Expr → Bool
  | _, [] => true
  | j, e :: es => (match cs[j]? with
    | some n => isB n e
    | none => false) && isBs cs (j + 1) es
def endB (cs : List Str) (sc : Scope) : List Stmt → Bool
  | [.If (.UnaryOp .Not iv _) [.Return (some (.Constant .none _ _)) _] [] _, .Return (some e) _] => isB "ValueError" iv && chE (rSx sc) (rLc cs.length) e
  | _ => false
def moreB (cs : List Str) (sc : Scope) : Nat → List Stmt → Bool
  | j, st :: r => (match st with
    | .Assign [.Name k1 _] (.BinOp (.Name k2 _) op (.List es _) _) _ => decide (k1 = "kinds") && decide (k2 = "kinds") && decide (op = .Add) && decide (j + es.length < 100) && isBs cs j es && moreB cs sc (j + es.length) r
    | _ => decide (j = cs.length) && endB cs sc (st :: r))
  | _, [] => false
def refB (re : Str) (cs : List Str) (sc : Scope) : List Stmt → Bool
  | .Assign [.Name e1 _] (.Constant .none _ _) _ :: .Try [.Expr (.Call (.Name a _) [] kw _) _] [.ExceptHandler (some (.Name c _)) (some n) [.Assign [.Name y _] (.Name n2 _) _] _] [] [] _ :: .Assign [.Name k _] (.List es _) _ :: r =>
    decide (e1 = "error") && kw.isEmpty && decide (a = "call") && decide (c = re) && decide (n = "e") && decide (y = "error") && decide (n2 = "e") && decide (k = "kinds") && decide (es.length < 100) && isBs cs 0 es && moreB cs sc es.length r
  | _ => false
/-- names that the text takes from elsewhere -/
def refS (re : Str) (cs : List Str) (sc : Scope) : Bool := fnScB0 sc && (re :: "isinstance" :: "ValueError" :: cs).all (fun n => glB sc n && okName n) && decide (cs.length < 100) && decide (sc.names.lookup ("e" : Str) = some .local) && visB sc "error" && visB sc "kinds" && visB sc "call" && noFree sc "error" && noFree sc "kinds"
where
  fnScB0 (sc : Scope) : Bool := decide (sc.kind = .function)
  noFree (sc : Scope) (n : Str) : Bool := decide (sc.names.lookup n = some .local) || decide (sc.names.lookup n = some .cell)
/-! ### what stands of the classes -/
structure RefF (K : PySem.W.Frag) (mg : Str → Option Value) (EC : Nat → Addr) (re : Str) (cs : List Str) (ks : List Nat) : Prop where
  free : mg "isinstance" = none ∧ mg "range" = none ∧ mg "ValueError" = none
  re : ∃ RE, mg re = some (.ref RE) ∧ ∀ c k, ks[c]? = some k → PySem.W.exmOne K (.ref (EC c)) (.ref RE) = some true
  cl : ∀ j n, cs[j]? = some n → ∃ D, mg n = some (.ref D) ∧ PySem.W.kitOne K (.type "NoneType") (.ref D) = some false ∧ ∀ c k, ks[c]? = some k → PySem.W.kitOne K (.ref (EC c)) (.ref D) = some (decide (j = k))
  exc : ∀ c k, ks[c]? = some k → ExcC K (EC c) ∧ PySem.W.kitOne K (.ref (EC c)) (.type "ValueError") = some true ∧ k < cs.length
/-! ### the rest of the text, the error's tests known -/
section
variable {Y : Cx} {v : V} {cs : List Str} {b : Nat → Bool} {bv : Bool}
def IsE (Y : Cx) (v : V) (n : Str) (r : Bool) : Prop := ∀ (p1 p2 p3 p4 : Pos), PE Y (.Call (.Name "isinstance" p1) [.Name "error" p2, .Name n p3] [] p4) (fun σ H Q => σ[1]? = some (some v) ∧ Q (.bl r) H)
theorem isB_ok {n : Str} {r : Bool} {e : Expr} (h : IsE Y v n r) (q : isB n e = true) : noStar e = true ∧ PE Y e (fun σ H Q => σ[1]? = some (some v) ∧ Q (.bl r) H) := by
  unfold isB at q
  split at q
  · simp only [Bool.and_eq_true, decide_eq_true_eq] at q
    obtain ⟨⟨⟨q1, rfl⟩, rfl⟩, rfl⟩ := q
    cases kw_nil q1
    exact ⟨rfl, h _ _ _ _⟩
  · cases q
theorem isBs_ok (h : ∀ j n, cs[j]? = some n → IsE Y v n (b j)) : ∀ {es : List Expr} {j : Nat}, isBs cs j es = true → PA Y es (fun σ H Q => σ[1]? = some (some v) ∧ Q ((List.range' j es.length).map fun i => V.bl (b i)) H)
  | [], j, _ => ⟨fun pos pins s σ H Q I w => (pa_nil (X := Y)).run pos pins s σ H Q I w.2⟩
  | e :: es, j, q => by
    have q : ((match cs[j]? with
      | some n => isB n e
      | none => false) && isBs cs (j + 1) es) = true := q
    rw [Bool.and_eq_true] at q
    cases hn : cs[j]? with
    | none => rw [hn] at q; cases q.1
    | some n =>
      rw [hn] at q
      obtain ⟨n1, pe⟩ := isB_ok (h j n hn) q.1
      refine paW (pa_cons pe (isBs_ok h q.2) (star_cons n1 _)) fun σ H Q w => ?_
      exact ⟨w.1, w.1, w.2⟩
/-- what the rest asks, j tests being in the list -/
def tRest (v : V) (n : Nat) (K : PySem.W.Frag) (b : Nat → Bool) (bv : Bool) (j : Nat) : TS := fun D σ H => σ[1]? = some (some v) ∧ σ.length = 5 ∧ Tb K H ∧ (∃ p, σ[3]? = some (some (.ref p)) ∧ H p = some (.lst ((List.range' 0 j).map fun i => .bl (b i)))) ∧
  (bv = false → ∀ H', LamX.ExtN H H' → Tb K H' → D.rt .non H') ∧ (bv = true → ∀ H' p, LamX.ExtN H H' → Tb K H' → Np H p → H' p = some (.lst (((List.range n).filter b).map fun (i : Nat) => .int (i : Int))) → D.rt (.ref p) H')
theorem ext_new {H : Hp} {p : Addr} {o : HO} (h : H p = none) : LamX.ExtN H (upd H p o) := .of fun b u e => by rw [upd_ne (ne_of_none e h)]; exact e
theorem rps_bools {K : PySem.W.Frag} {H : Hp} {b : Nat → Bool} : ∀ js : List Nat, RpA K H (js.map fun i => V.bl (b i)) (js.map fun i => PyData.bool (b i))
  | [] => .nil
  | _ :: js => .cons (.bl _) (rps_bools js)
theorem rps_ints {K : PySem.W.Frag} {H : Hp} {xs : List V} : ∀ {js : List Nat}, RpA K H xs (js.map fun (i : Nat) => PyData.int (i : Int)) → xs = js.map fun (i : Nat) => V.int (i : Int)
  | [], h => by cases h; rfl
  | j :: js, h => by
    cases h with
    | cons a r =>
      cases a
      rw [rps_ints r] <;> rfl
theorem end_ok {EC : Nat → Addr} {st : List Stmt} {sc : Scope} (hsc : Y.env.scope = sc) (hN : Y.N = rN) (hk : sc.kind = .function) (hc : Y.calm = true) (hroom : Room 0 Y.A) (hun : Y.A.units + 65 < cLine) (hfn : ∀ n, Y.fn n = true) (hn : cs.length < 100)
    (hfree : Y.mg "isinstance" = none ∧ Y.mg "range" = none ∧ Y.mg "ValueError" = none) (hV : IsE Y v "ValueError" bv) (q : endB cs sc st = true) : PSs Y st (tRest v cs.length Y.K b bv cs.length) := by
  unfold endB at q
  split at q
  · rename_i iv p1 j2 p2 p3 p4 e p5
    rw [Bool.and_eq_true] at q
    obtain ⟨q1, q2⟩ := q
    obtain ⟨n1, pv1⟩ := isB_ok hV q1
    have nd : Y.N.Nodup := by rw [hN]; decide
    have cx : Ctx EC rC 0 Y WF (rSx sc) := by
      refine ⟨hsc, hN, by rw [hsc]; exact hk, nd, hc, takes0, hroom, hun, fun n hx => ?_, fun f n z => (nomatch z), fun n d z => (nomatch z), fun n _ => hfn n, (fun z => nomatch z), (fun z => nomatch z), (fun z => nomatch z), fun _ _ z => nomatch z⟩
      have hx : n ∈ (["isinstance", "range", "ValueError"] : List Str) := by simpa [rSx] using hx
      rcases List.mem_cons.mp hx with rfl | hx
      · exact hfree.1
      · rcases List.mem_cons.mp hx with rfl | hx
        · exact hfree.2.1
        · rw [List.mem_singleton.mp hx]
          exact hfree.2.2
    have pl := (sndE EC rC 0 (rLc cs.length) Y WF (rSx sc) e cx q2).2.1
    have he : ∀ whole, isTrue iv Y.env whole = (do let v ← whole; standAt iv.pos; holding [v] (truthy v)) := by
      unfold isB at q1
      split at q1
      · intro _; rfl
      · cases q1
    refine pssW (pss_cons (ps_if (pt_not (pt_val pv1 he)) (pss_one (ps_ret pe_non)) pss_nil) (pss_one (ps_ret pl))) fun D σ H ⟨w1, w2, wt, ⟨p, w3, w4⟩, w5, w6⟩ => ?_
    refine ⟨w1, _, rfl, ?_⟩
    cases bv with
    | false => exact w5 rfl H (.refl H) wt
    | true =>
      show ∃ F s, StOk Y.K F s σ H ∧ Wp Y.K EC WF F s σ H (evE rC (rLc cs.length) s) fun r s' => ∀ v H', AftS Y.K F s σ H r s' v H' → D.rt v H'
      have w4 : H p = some (.lst ((List.range cs.length).map fun i => .bl (b i))) := by rw [List.range_eq_range']; exact w4
      have noOwn : ∀ c, ¬ Own (rS cs.length b) σ c := fun c ⟨i, o, z, _⟩ => by
        match i, z with
        | 0, z => cases z
        | 1, z => cases z
        | 2, z => cases z
        | 3, z => cases z
        | 4, z => cases z
        | n + 5, z => cases z
      have noN : ∀ c, ¬ Nn (fun _ => False) (rS cs.length b) σ c := fun c z => z.elim id (noOwn c)
      have k : StOk Y.K (fun _ => False) (rS cs.length b) σ H := by
        refine ⟨by rw [w2]; rfl, fun i d z => ?_, fun i o z => ?_, fun i j o o' c z z' _ _ => ?_, fun c _ z => z, fun c z => z.elim, wt⟩
        · match i, z with
          | 0, z => cases z
          | 1, z => cases z
          | 2, z => cases z
          | 3, z =>
            cases z
            exact ⟨.ref p, w3, .lst (.inl (.inl (hid_iff.mpr ⟨noN p, w4⟩))) (rps_bools _)⟩
          | 4, z => cases z
          | n + 5, z => cases z
        · match i, z with
          | 0, z => cases z
          | 1, z => cases z
          | 2, z => cases z
          | 3, z => cases z
          | 4, z => cases z
          | n + 5, z => cases z
        · match i, z with
          | 0, z => cases z
          | 1, z => cases z
          | 2, z => cases z
          | 3, z => cases z
          | 4, z => cases z
          | n + 5, z => cases z
      refine ⟨fun _ => False, rS cs.length b, k, ?_⟩
      rw [r_val b (by omega)]
      rintro vv H' ⟨p', rfl, a⟩
      obtain ⟨xs, e1, e2⟩ := a.at_
      have ex : LamX.ExtN H H' := fun c o z t => (a.fr.imm c o (noN c) t z).1
      refine w6 rfl H' p' ex a.ok.tb (fun o t z => ?_) (by rw [e1, rps_ints e2])
      exact (a.fr.imm p' o (noN p') t z).2 (.inl (.inr rfl))
  · cases q
theorem rb_app {b : Nat → Bool} {j m : Nat} : (List.range' 0 j).map (fun i => V.bl (b i)) ++ (List.range' j m).map (fun i => V.bl (b i)) = (List.range' 0 (j + m)).map fun i => V.bl (b i) := by
  rw [← List.map_append]
  congr 1
  have := List.range'_append (s := 0) (m := j) (n := m) (step := 1)
  simpa using this
theorem more_ok {EC : Nat → Addr} {sc : Scope} (hsc : Y.env.scope = sc) (hN : Y.N = rN) (hk : sc.kind = .function) (hc : Y.calm = true) (hroom : Room 0 Y.A) (hun : Y.A.units + 65 < cLine) (hfn : ∀ n, Y.fn n = true) (hn : cs.length < 100)
    (hfree : Y.mg "isinstance" = none ∧ Y.mg "range" = none ∧ Y.mg "ValueError" = none) (hV : IsE Y v "ValueError" bv) (hI : ∀ j n, cs[j]? = some n → IsE Y v n (b j)) (hloc : Loc sc "kinds") : ∀ {st : List Stmt} {j : Nat}, moreB cs sc j st = true → PSs Y st (tRest v cs.length Y.K b bv j)
  | [], j, q => by cases q
  | st :: r, j, q => by
    unfold moreB at q
    split at q
    · rename_i k1 p1 k2 p2 op es p3 p4 p5
      simp only [Bool.and_eq_true, decide_eq_true_eq] at q
      obtain ⟨⟨⟨⟨⟨rfl, rfl⟩, rfl⟩, q0⟩, q1⟩, q2⟩ := q
      have ih := more_ok hsc hN hk hc hroom hun hfn hn hfree hV hI hloc (EC := EC) q2
      have h3 : Y.N[3]? = some ("kinds" : Str) := by rw [hN]; rfl
      have nd : Y.N.Nodup := by rw [hN]; decide
      have vis : Vis Y.env.scope "kinds" := by rw [hsc]; exact hloc.elim .inl fun z => .inr (.inl z)
      refine pssW (pss_cons (ps_set nd h3 (by rw [hsc]; exact hloc) (pe_op op_cat (pe_var (i := 3) h3 vis) (pe_lst (isBs_ok hI q1))) rfl (.inl (hfn _))) ih) fun D σ H ⟨w1, w2, wt, ⟨p, w3, w4⟩, w5, w6⟩ => ?_
      refine ⟨.ref p, w3, w1, by rw [List.length_map, List.length_range']; exact Nat.le_of_lt (Nat.lt_of_lt_of_le (Nat.lt_of_le_of_lt (Nat.le_add_left _ j) q0) (by decide)), fun p2 hp2 => ?_⟩
      have hne : p ≠ p2 := ne_of_none w4 hp2
      refine ⟨p, p2, _, _, rfl, rfl, by rw [upd_ne hne]; exact w4, upd_same, by rw [List.length_map, List.length_map, List.length_range', List.length_range']; exact Nat.le_of_lt (Nat.lt_of_lt_of_le q0 (by decide)), fun p3 hp3 => ?_⟩
      have x1 := ext_new (o := .lst ((List.range' j es.length).map fun i => V.bl (b i))) hp2
      have x2 := ext_new (o := .lst ((List.range' 0 j).map (fun i => V.bl (b i)) ++ (List.range' j es.length).map fun i => V.bl (b i))) hp3
      have xx := x1.trans x2
      refine ⟨by rw [List.getElem?_set_ne (by decide)]; exact w1, by rw [List.length_set]; exact w2, (wt.new hp2).new hp3, ⟨p3, List.getElem?_set_self (by rw [w2]; decide), by rw [upd_same, rb_app]⟩, fun z H' e t => w5 z H' (xx.trans e) t, fun z H' q e t np h => w6 z H' q (xx.trans e) t (fun o nt y => ?_) h⟩
      exact np o nt (xx q o y nt)
    · rw [Bool.and_eq_true] at q
      cases of_decide_eq_true q.1
      exact end_ok (EC := EC) hsc hN hk hc hroom hun hfn hn hfree hV q.2
/-- the first list too -/
def tFirst (v : V) (n : Nat) (K : PySem.W.Frag) (b : Nat → Bool) (bv : Bool) : TS := fun D σ H => σ[1]? = some (some v) ∧ σ.length = 5 ∧ Tb K H ∧
  (bv = false → ∀ H', LamX.ExtN H H' → Tb K H' → D.rt .non H') ∧ (bv = true → ∀ H' p, LamX.ExtN H H' → Tb K H' → Np H p → H' p = some (.lst (((List.range n).filter b).map fun (i : Nat) => .int (i : Int))) → D.rt (.ref p) H')
theorem first_ok {EC : Nat → Addr} {sc : Scope} {es : List Expr} {r : List Stmt} {p1 p2 p3 : Pos} (hsc : Y.env.scope = sc) (hN : Y.N = rN) (hk : sc.kind = .function) (hc : Y.calm = true) (hroom : Room 0 Y.A) (hun : Y.A.units + 65 < cLine) (hfn : ∀ n, Y.fn n = true) (hn : cs.length < 100)
    (hfree : Y.mg "isinstance" = none ∧ Y.mg "range" = none ∧ Y.mg "ValueError" = none) (hV : IsE Y v "ValueError" bv) (hI : ∀ j n, cs[j]? = some n → IsE Y v n (b j)) (hloc : Loc sc "kinds") (q0 : es.length < 100) (q1 : isBs cs 0 es = true) (q2 : moreB cs sc es.length r = true) :
    PSs Y (.Assign [.Name "kinds" p1] (.List es p2) p3 :: r) (tFirst v cs.length Y.K b bv) := by
  have ih := more_ok hsc hN hk hc hroom hun hfn hn hfree hV hI hloc (EC := EC) q2
  have h3 : Y.N[3]? = some ("kinds" : Str) := by rw [hN]; rfl
  have nd : Y.N.Nodup := by rw [hN]; decide
  refine pssW (pss_cons (ps_set nd h3 (by rw [hsc]; exact hloc) (pe_lst (isBs_ok hI q1)) rfl (.inl (hfn _))) ih) fun D σ H ⟨w1, w2, wt, w5, w6⟩ => ?_
  refine ⟨w1, by rw [List.length_map, List.length_range']; exact Nat.le_of_lt (Nat.lt_of_lt_of_le q0 (by decide)), fun p2 hp2 => ?_⟩
  have xx := ext_new (o := .lst ((List.range' 0 es.length).map fun i => V.bl (b i))) hp2
  refine ⟨by rw [List.getElem?_set_ne (by decide)]; exact w1, by rw [List.length_set]; exact w2, wt.new hp2, ⟨p2, List.getElem?_set_self (by rw [w2]; decide), upd_same⟩, fun z H' e t => w5 z H' (xx.trans e) t, fun z H' q e t np h => w6 z H' q (xx.trans e) t (fun o nt y => np o nt (xx q o y nt)) h⟩
end
theorem filter_one {n k : Nat} (h : k < n) : (List.range n).filter (fun j => decide (j = k)) = [k] := by
  induction n with
  | zero => omega
  | succ n ih =>
    rw [List.range_succ, List.filter_append]
    by_cases e : k = n
    · subst e
      have z : (List.range k).filter (fun j => decide (j = k)) = [] := by
        rw [List.filter_eq_nil_iff]
        intro a ha
        have := List.mem_range.mp ha
        simp
        omega
      rw [z]
      simp
    · rw [ih (by omega)]
      have : ¬ n = k := fun z => e z.symm
      simp [this]
theorem gl_of {sc : Scope} {n : Str} (h : glB sc n = true) : sc.names.lookup n = some .globalImplicit := by
  unfold glB at h
  split at h
  · assumption
  · cases h
section
variable {X : Cx} {EC : Nat → Addr} {re : Str} {cs : List Str} {ks : List Nat} {sg : Scope}
theorem boot_isi : bootBuiltins "isinstance" = some (.builtin "isinstance") := by decide +kernel
theorem boot_ve : bootBuiltins "ValueError" = some (.type "ValueError") := by decide +kernel
theorem isE_of {Y : Cx} {v : V} {n : Str} {r : Bool} {cv : V} {rr : List V → Hp → VK → Prop} (hc : CallR Y (.builtin "isinstance") rr) (hg : Gl Y "isinstance") (hm : Y.mg "isinstance" = none) (hN : Y.N[1]? = some ("error" : Str)) (hv : Vis Y.env.scope "error") (hcl : ∀ p, PE Y (.Name n p) (tC cv))
    (hr : ∀ H Q, Q (.bl r) H → rr [v, cv] H Q) : IsE Y v n r := fun p1 p2 p3 p4 => peW (pe_callB hc hg hm boot_isi (pa_cons (pe_var (i := 1) hN hv) (pa_cons (hcl p3) pa_nil))) fun σ H Q w => ⟨v, w.1, hr H Q w.2⟩
theorem peMono {Y : Cx} {e : Expr} {t : TE} (h : PE Y e t) : PE Y e (fun σ H Q => ∃ Qn : VK, (∀ v H', Qn v H' → Q v H') ∧ t σ H Qn) := ⟨fun pins s σ H Q I ⟨Qn, k, w⟩ => thn (h.run pins s σ H Qn I w) fun u s1 ⟨v, H1, I1, r, q⟩ => ⟨v, H1, I1, r, k v H1 q⟩⟩
theorem refused_gives {q : Str} {x : Str} {g : Addr} {cdg : Value} {bg : List Stmt} (F : RefF X.K X.mg EC re cs ks) (hS : refS re cs sg = true) (hB : refB re cs sg bg = true) (hroom : ∀ (s : Shared), Room 0 (X.A.deeper (envOfC x sg s.heap.objs.size g cdg))) : LamX.GivesTo X rN x sg g cdg bg "call" q (TRef X.K EC ks) := by
  intro f c' s H Q tl act hc h
  unfold refS at hS
  simp only [Bool.and_eq_true, decide_eq_true_eq, List.all_cons, refS.fnScB0, refS.noFree, Bool.or_eq_true] at hS
  obtain ⟨⟨⟨⟨⟨⟨⟨⟨s1, ⟨s2, s3⟩, ⟨s4, s5⟩, ⟨s6, s7⟩, s8⟩, s9⟩, s10⟩, s11⟩, s12⟩, s13⟩, s14⟩, s15⟩ := hS
  obtain ⟨f1, f2, f3⟩ := F.free
  obtain ⟨RE, hre, hex⟩ := F.re
  have glc : ∀ n ∈ cs, sg.names.lookup n = some .globalImplicit ∧ (n == ("__debug__" : Str)) = false := fun n hn => by
    have z := List.all_eq_true.mp s8 n hn
    rw [Bool.and_eq_true] at z
    exact ⟨gl_of z.1, (okName_of z.2).1⟩
  have gl1 : sg.names.lookup ("isinstance" : Str) = some .globalImplicit := gl_of s4
  have gl2 : sg.names.lookup ("ValueError" : Str) = some .globalImplicit := gl_of s6
  have gl3 : sg.names.lookup re = some .globalImplicit := gl_of s2
  have lok : Loc sg "kinds" := s15
  have loe : Loc sg "error" := s14
  have vie : Vis sg "error" := loe.elim .inl fun z => .inr (.inl z)
  have via : Vis sg "call" := by
    unfold visB at s13
    split at s13 <;> first | (exact .inl (by assumption)) | (exact .inr (.inl (by assumption))) | (exact .inr (.inr (by assumption))) | (cases s13)
  have hun : ∀ (s : Shared), (X.A.deeper (envOfC x sg s.heap.objs.size g cdg)).units + 65 < cLine := fun s => by
    have := (hroom s).un
    omega
  have nd : rN.Nodup := by decide
  unfold refB at hB
  split at hB
  · rename_i e1 p1 j1 p2 p3 a p4 kw p5 p6 c p7 n y p8 n2 p9 p10 p11 p12 k p13 es p14 p15 r
    simp only [Bool.and_eq_true, decide_eq_true_eq] at hB
    obtain ⟨⟨⟨⟨⟨⟨⟨⟨⟨⟨rfl, q2⟩, rfl⟩, rfl⟩, rfl⟩, rfl⟩, rfl⟩, rfl⟩, q9⟩, q10⟩, q11⟩ := hB
    cases kw_nil q2
    have fst : ∀ {Y : Cx} {v : V} {b : Nat → Bool} {bv : Bool}, Y.env.scope = sg → Y.N = rN → Y.calm = true → Y.A = X.A.deeper (envOfC x sg s.heap.objs.size g cdg) → (∀ n, Y.fn n = true) → Y.mg = X.mg → IsE Y v "ValueError" bv → (∀ j n, cs[j]? = some n → IsE Y v n (b j)) →
        PSs Y (.Assign [.Name "kinds" p13] (.List es p14) p15 :: r) (tFirst v cs.length Y.K b bv) := fun {Y v b bv} h1 h2 h3 h4 h5 h6 h7 h8 =>
      first_ok (EC := EC) h1 h2 s1 h3 (by rw [h4]; exact hroom s) (by rw [h4]; exact hun s) h5 s9 (by rw [h6]; exact F.free) h7 h8 lok q9 q10 q11
    -- no error
    have h0 : PSs (cxOf C8.CX0 X.prog X.w X.K X.mg X.base rN x sg g cdg X.A X.stack s H C8.E0).nox (.Assign [.Name "kinds" p13] (.List es p14) p15 :: r) (tFirst .non cs.length X.K (fun _ => false) false) :=
      fst (v := .non) rfl rfl rfl rfl (fun _ => rfl) rfl
        (isE_of (cv := .ty "ValueError") call_isi gl1 f1 rfl vie (fun p => pe_bltn gl2 f3 boot_ve rfl) fun H Q w => ⟨.non, .ty "ValueError", _, _, false, rfl, .ty _, .base .non, kit_ty (by decide +kernel), w⟩)
        fun j n hn => by
          obtain ⟨D, d1, d2, _⟩ := F.cl j n hn
          obtain ⟨z1, z2⟩ := glc n (List.mem_of_getElem? hn)
          exact isE_of (cv := .ref D) call_isi gl1 f1 rfl vie (fun p => pe_glob z1 d1 rfl z2) fun H Q w => ⟨.non, .ref D, _, _, false, rfl, .own _, .base .non, d2, w⟩
    let t1 : Addr → Value → Option Addr → TS := fun a cls d D σ H => ∃ c k, cls = .ref (EC c) ∧ d = none ∧ ks[c]? = some k ∧ tFirst (.ref a) cs.length X.K (fun j => decide (j = k)) true D σ H
    have h1 : ∀ (a : Addr) (oe : Obj) (cls : Value) (d : Option Addr) (pn : List (Addr × Obj)), Zc cls d oe → (∃ vs, oe.data = .fields vs) →
        PSs ((cxOf C8.CX0 X.prog X.w X.K X.mg X.base rN x sg g cdg X.A X.stack s H C8.E0).nox.tr ((a, oe) :: pn) (fun _ _ => False)) (.Assign [.Name "kinds" p13] (.List es p14) p15 :: r) (t1 a cls d) := fun a oe cls d pn hz hf => by
      refine ⟨fun pins s2 σ H2 D I w => ?_⟩
      obtain ⟨c, k, rfl, rfl, hk, w⟩ := w
      obtain ⟨x1, x2, x3⟩ := F.exc c k hk
      have hI := call_isK (X := (cxOf C8.CX0 X.prog X.w X.K X.mg X.base rN x sg g cdg X.A X.stack s H C8.E0).nox.tr ((a, oe) :: pn) (fun _ _ => False)) x1 hz hf List.mem_cons_self
      refine (fst (Y := (cxOf C8.CX0 X.prog X.w X.K X.mg X.base rN x sg g cdg X.A X.stack s H C8.E0).nox.tr ((a, oe) :: pn) (fun _ _ => False)) (v := .ref a) (b := fun j => decide (j = k)) (bv := true) rfl rfl rfl rfl (fun _ => rfl) rfl ?_ ?_).run pins s2 σ H2 D I w
      · exact isE_of (cv := .ty "ValueError") hI gl1 f1 rfl vie (fun p => pe_bltn gl2 f3 boot_ve rfl) fun H Q w => ⟨.ty "ValueError", _, true, rfl, fun u r => r, x2, w⟩
      · intro j n hn
        obtain ⟨D, d1, _, d3⟩ := F.cl j n hn
        obtain ⟨z1, z2⟩ := glc n (List.mem_of_getElem? hn)
        exact isE_of (cv := .ref D) hI gl1 f1 rfl vie (fun p => pe_glob z1 d1 rfl z2) fun H Q w => ⟨.ref D, _, _, rfl, fun u r => r, d3 c k hk, w⟩
    refine ⟨_, pss_cons (ps_set (i := 1) nd rfl loe pe_non rfl (.inl rfl)) (pss_tryE (i := 2) (j := 1) (c := .ref RE) (t0 := tFirst .non cs.length X.K (fun _ => false) false) (t1 := t1) (Wout := fun _ _ _ _ => False)
      (tb := fun W D σ H => ∃ Ech : XK, (∀ cls d σ' H', Ech cls d H' → W cls d σ' H') ∧ σ[0]? = some (some (.ref f)) ∧ H c' = some (LamX.CodeO c' q) ∧ ∃ Qn : VK, (∀ v H', Qn v H' → D.nx σ H') ∧ tl Ech H Qn)
      rfl rfl nd rfl s10 rfl loe rfl (by decide) (by decide) ⟨gl3, (okName_of s3).1, .inl hre⟩ takes0 (fun W pn xe tk _ => ?_) h0 h1), ?_⟩
    · refine ⟨fun pins s' σ H' D I h' => ?_⟩
      obtain ⟨Ech, hW, h1, h2, h3⟩ := h'
      have hp := act W pn xe Ech p4 p5 tk hW
      have hq := pss_one (ps_expr (pos := p6) (peMono hp))
      obtain ⟨Qn, h4, h5⟩ := h3
      exact hq.run pins s' σ H' D I ⟨Qn, fun v H' w => h4 v H' w, h1, h2, h5⟩
    · have len : ((L2.start rN [V.ref f]).set 1 (some .non)).length = 5 := rfl
      refine ⟨fun cls d H' => ∃ (c k : Nat), cls = .ref (EC c) ∧ d = none ∧ ks[c]? = some k ∧ Tb X.K H' ∧ ∀ H'' p, LamX.ExtN H' H'' → Tb X.K H'' → Np H' p → H'' p = some (.lst [.int k]) → Q (.ref p) H'', fun cls d σ' H' ⟨c, k, z1, z2, z3, z4, z5⟩ hl => ⟨true, by rw [z1]; exact hex c k z3, fun _ a na => ?_, fun z => nomatch z⟩, rfl, hc, ?_⟩
      · have hl : σ'.length = 5 := hl
        refine ⟨c, k, z1, z2, z3, ?_, by rw [List.length_set, List.length_set, List.length_set]; exact hl, z4, (fun z => nomatch z), fun _ H'' p e t np hp => ?_⟩
        · rw [List.getElem?_set_ne (by decide)]
          exact List.getElem?_set_self (by rw [List.length_set, hl]; decide)
        · rw [filter_one (F.exc c k z3).2.2] at hp
          exact z5 H'' p e t np hp
      · exact ⟨_, fun v H' w => ⟨rfl, rfl, w.1, fun _ => w.2, fun z => nomatch z⟩, h⟩
  · cases hB
end
end Hg
set_option Elab.async false
set_option linter.all false
set_option maxRecDepth 100000
set_option maxHeartbeats 400000
/-! A whole text: its defs by their runs, its head. -/
namespace Hg
open PySem PySem.Spec PyProof.Rows L2 RZ RT
/-- a def of the text: its term, its statement, its own name, its qualified name -/
structure Tp where
  fd : Fd
  st : Stmt
  x : Str
  q : Str
structure Pg where
  ds : List Tp
  con : List (Str × D)
  free : List Str
  exs : List Str
  /-- tellers of refusals: which def, the class that they catch, the classes that they tell, the errors' numbers -/
  rf : List (Nat × Str × List Str × List Nat)
  /-- the module's tables, by text -/
  tbs : List (Str × List (Str × Int))
noncomputable def Pg.pr (g : Pg) : Pr := ⟨g.ds.map (·.fd), fun n => g.con.lookup n⟩
def Pg.sx (g : Pg) (t : Tp) : Sx := ⟨defScope t.st, t.fd.N, g.free, fun i => g.ds[i]?.map (·.fd.name), fun c => g.exs[c]?, fun _ => true, !g.rf.isEmpty, fun r => (g.rf.lookup r).map (·.2.2), g.tbs⟩
def Tp.ps (t : Tp) : List Str := t.fd.N.take t.fd.io.length
def fnScB (N P : List Str) (sc : Scope) : Bool := (match sc.kind with | .function => true | _ => false) && !sc.isCoroutine && !sc.isGenerator && decide N.Nodup && decide (N.take P.length = P) &&
  (P.all fun x => match sc.names.lookup x with | some .local => true | some .cell => true | _ => false) && (sc.names.all fun y => match y.2 with | .free => false | _ => true)
theorem fnSc_of {N P : List Str} {sc : Scope} (h : fnScB N P sc = true) : FnScope N P sc := by
  unfold fnScB at h
  simp only [Bool.and_eq_true, decide_eq_true_eq, Bool.not_eq_true'] at h
  obtain ⟨⟨⟨⟨⟨⟨h1, h2⟩, h3⟩, h4⟩, h5⟩, h6⟩, h7⟩ := h
  refine ⟨?_, h2, h3, h4, h5, fun x hx => ?_, fun y hy e => ?_⟩
  · split at h1
    · assumption
    · cases h1
  · have z := List.all_eq_true.mp h6 x hx
    split at z
    · exact .inl (by assumption)
    · exact .inr (by assumption)
    · cases z
  · have z := List.all_eq_true.mp h7 y hy
    rw [e] at z
    cases z
/-- a def that is not read -/
def isBad : Sts → Bool
  | .cons (.exp (.dic .nil (.cons .non .nil))) .nil => true
  | _ => false
def Pg.okDef (g : Pg) (t : Tp) : Bool := (isBad t.fd.body || chSts (g.sx t) t.fd.body (defBody t.st)) && fnScB t.fd.N t.ps (defScope t.st) && decide (t.fd.io.length ≤ t.fd.N.length) && argsB (defArgs t.st) t.ps
def Pg.okRef (g : Pg) (r : Nat × Str × List Str × List Nat) : Bool := match g.ds[r.1]? with
  | some t => refS r.2.1 r.2.2.1 (defScope t.st) && refB r.2.1 r.2.2.1 (defScope t.st) (defBody t.st) && argsB (defArgs t.st) ["call"] && fnScB rN ["call"] (defScope t.st) && decide (t.x = t.fd.name) && decide (t.q = t.fd.name) && visB (defScope t.st) "call"
  | none => false
def Pg.chk (g : Pg) : Bool := g.ds.all g.okDef && g.rf.all g.okRef && (g.rf.isEmpty || (g.free.contains "isinstance" && g.free.contains "range" && g.free.contains "ValueError"))
/-! ### constants -/
mutual
def vB (K : PySem.W.Frag) : D → Value → Bool
  | .none, u => match u with
    | .none => true
    | _ => false
  | .bool b, u => match u with
    | .bool c => b == c
    | _ => false
  | .int i, u => match u with
    | .int j _ => decide (i = j)
    | _ => false
  | .str x, u => match u with
    | .str y _ => decide (x = y)
    | _ => false
  | .tuple ds, u => match u with
    | .ref a => match K.lookup a with
      | some ⟨.type c, _, .seq its _, _⟩ => decide (c = "tuple") && decide (its.size ≤ sizeLine) && vBs K ds its.toList
      | _ => false
    | _ => false
  | .list _, _ => false
  | .dict _, _ => false
def vBs (K : PySem.W.Frag) : List D → List Value → Bool
  | [], us => us.isEmpty
  | d :: ds, us => match us with
    | u :: us => vB K d u && vBs K ds us
    | [] => false
end
mutual
theorem vB_ok {K : PySem.W.Frag} : ∀ {d : D} {u : Value}, vB K d u = true → ∃ v, RelV v u ∧ ∀ H, Rp K H v d
  | .none, u, h => by
    unfold vB at h
    split at h
    · exact ⟨.non, rfl, fun _ => .non⟩
    · cases h
  | .bool b, u, h => by
    unfold vB at h
    split at h
    · cases (beq_iff_eq.mp h)
      exact ⟨.bl _, rfl, fun _ => .bl _⟩
    · cases h
  | .int i, u, h => by
    unfold vB at h
    split at h
    · cases (of_decide_eq_true h)
      exact ⟨.int _, ⟨_, rfl⟩, fun _ => .int _⟩
    · cases h
  | .str x, u, h => by
    unfold vB at h
    split at h
    · cases (of_decide_eq_true h)
      exact ⟨.str _, ⟨_, rfl⟩, fun _ => .str _⟩
    · cases h
  | .tuple ds, u, h => by
    unfold vB at h
    split at h
    · rename_i a
      split at h
      · rename_i c od its n sl e
        rw [Bool.and_eq_true, Bool.and_eq_true] at h
        obtain ⟨⟨h1, h2⟩, h3⟩ := h
        obtain ⟨vs, r, k⟩ := vBs_ok h3
        exact ⟨.ref a, rfl, fun H => .tup (.inr ⟨_, its, n, e, congrArg Value.type (of_decide_eq_true h1), rfl, of_decide_eq_true h2, r⟩) (k H)⟩
      · cases h
    · cases h
  | .list _, u, h => by unfold vB at h; cases h
  | .dict _, u, h => by unfold vB at h; cases h
theorem vBs_ok {K : PySem.W.Frag} : ∀ {ds : List D} {us : List Value}, vBs K ds us = true → ∃ vs, Vals vs us ∧ ∀ H, RpA K H vs ds
  | [], us, h => by
    unfold vBs at h
    rw [List.isEmpty_iff] at h
    subst h
    exact ⟨[], .nil, fun _ => .nil⟩
  | d :: ds, us, h => by
    unfold vBs at h
    split at h
    · rw [Bool.and_eq_true] at h
      obtain ⟨v, r, k⟩ := vB_ok h.1
      obtain ⟨vs, r2, k2⟩ := vBs_ok h.2
      exact ⟨v :: vs, .cons r r2, fun H => .cons (k H) (k2 H)⟩
    · cases h
end
def conB (K : PySem.W.Frag) (p : Str × D) : Bool := match PySem.W.nsIn K mainGlobals p.1 with
  | some (some u) => vB K p.2 u
  | _ => false
def exB (con : List (Str × D)) (K : PySem.W.Frag) : Bool := con.all (conB K)
/-! ### the classes of errors -/
def Pg.ec (g : Pg) (K : PySem.W.Frag) (c : Nat) : Addr := He.ga K (g.exs.getD c Str.empty)
def eqV (a b : Option (Option Value)) : Bool := decide (a = b)
def clsB (K : PySem.W.Frag) (D : Addr) : Bool :=
  eqV (PySem.W.findIn K (.ref D) "__getattribute__") (some (some (.builtin "BaseException.__getattribute__"))) && eqV (PySem.W.findIn K (.ref D) "__getattr__") (some none) && decide (PySem.W.subIn K (.ref D) (.type "BaseException") = some true) && PySem.W.hasDictIn K D &&
  eqV (PySem.W.findIn K (.ref D) "__class__") (some (some (.builtin "object.__class__"))) && eqV (PySem.W.specialIn K (.builtin "object.__class__") "__get__") (some (some (.builtin "getset_descriptor.__get__"))) && decide (PySem.W.takesIn K (.builtin "object.__class__") = some true) &&
  decide (PySem.W.mroIn K D (.type "object") = some true)
theorem clsB_ok {K : PySem.W.Frag} {D : Addr} (h : clsB K D = true) : ExcC K D := by
  unfold clsB eqV at h
  simp only [Bool.and_eq_true, decide_eq_true_eq] at h
  obtain ⟨⟨⟨⟨⟨⟨⟨h1, h2⟩, h3⟩, h4⟩, h5⟩, h6⟩, h7⟩, h8⟩ := h
  exact ⟨h1, h2, h3, h4, h5, h6, h7, h8⟩
def Pg.rfB (g : Pg) (K : PySem.W.Frag) (r : Nat × Str × List Str × List Nat) : Bool :=
  (He.Fa.glo r.2.1).ok K && (r.2.2.1.all fun n => (He.Fa.glo n).ok K && decide (PySem.W.kitOne K (.type "NoneType") (.ref (He.ga K n)) = some false)) &&
  (List.range r.2.2.2.length).all fun c => decide (PySem.W.exmOne K (.ref (g.ec K c)) (.ref (He.ga K r.2.1)) = some true) && clsB K (g.ec K c) && decide (PySem.W.kitOne K (.ref (g.ec K c)) (.type "ValueError") = some true) && decide (r.2.2.2.getD c 0 < r.2.2.1.length) &&
    (List.range r.2.2.1.length).all fun j => decide (PySem.W.kitOne K (.ref (g.ec K c)) (.ref (He.ga K (r.2.2.1.getD j Str.empty))) = some (decide (j = r.2.2.2.getD c 0)))
/-! ### the hook -/
def Tp.dd (t : Tp) : He.DefD := ⟨(t.fd.name, none), t.x, t.q, defArgs t.st, defBody t.st, defScope t.st, [], []⟩
def Pg.fn (g : Pg) : List He.DefD := g.ds.map Tp.dd
def Pg.fa (g : Pg) : List He.Fa := (g.ds.map fun t => .glo t.fd.name) ++ ((g.exs.map .glo) ++ ((g.exs.map .exc) ++ g.free.map .free))
/-- each table bears one name -/
def oneB (K : PySem.W.Frag) : Bool := (cods K).all fun a => (cods K).all fun b => !(a.2.1 == b.2.1) || decide (a.2.2 = b.2.2)
/-- the same, looked at quickly where the tables stand in rising order -/
def incB : List Addr → Bool
  | [] => true
  | a :: r => (match r with
    | [] => true
    | b :: _ => Nat.blt a b) && incB r
theorem incB_lt : ∀ {r : List Addr} {a : Addr}, incB (a :: r) = true → ∀ b ∈ r, a < b
  | [], _, _, b, hb => nomatch hb
  | c :: r, a, h, b, hb => by
    have h : (Nat.blt a c && incB (c :: r)) = true := h
    rw [Bool.and_eq_true] at h
    have l : a < c := Nat.le_of_ble_eq_true h.1
    rcases List.mem_cons.mp hb with rfl | hb
    · exact l
    · exact Nat.lt_trans l (incB_lt h.2 b hb)
theorem incB_tl {r : List Addr} {a : Addr} (h : incB (a :: r) = true) : incB r = true := by
  unfold incB at h
  rw [Bool.and_eq_true] at h
  exact h.2
def oneQ (K : PySem.W.Frag) : Bool := incB ((cods K).map fun c => c.2.1) || oneB K
theorem oneQ_ok {K : PySem.W.Frag} (h : oneQ K = true) : oneB K = true := by
  unfold oneQ at h
  rw [Bool.or_eq_true] at h
  rcases h with h | h
  · unfold oneB
    generalize cods K = l at h
    have key : ∀ l : List (Addr × Addr × Str), incB (l.map fun c => c.2.1) = true → ∀ a ∈ l, ∀ b ∈ l, a.2.1 = b.2.1 → a = b := fun l => by
      induction l with
      | nil => intro _ a ha; cases ha
      | cons x l ih =>
        intro h a ha b hb e
        rw [List.map_cons] at h
        have lt : ∀ y ∈ l, x.2.1 < y.2.1 := fun y hy => incB_lt h y.2.1 (List.mem_map.mpr ⟨y, hy, rfl⟩)
        rcases List.mem_cons.mp ha with ea | ha
        · rcases List.mem_cons.mp hb with eb | hb
          · rw [ea, eb]
          · have := lt b hb
            rw [ea] at e
            exact absurd e (Nat.ne_of_lt this)
        · rcases List.mem_cons.mp hb with eb | hb
          · have := lt a ha
            rw [eb] at e
            exact absurd e.symm (Nat.ne_of_lt this)
          · exact ih (incB_tl h) a ha b hb e
    refine List.all_eq_true.mpr fun a ha => List.all_eq_true.mpr fun b hb => ?_
    by_cases e : a.2.1 = b.2.1
    · rw [key l h a ha b hb e]
      simp
    · simp [e]
  · exact h
def hdB (K : PySem.W.Frag) : Bool := (cods K).all fun c => PySem.W.codeHdIn K c.1 c.2.1
/-- no error's class is another one's -/
def Pg.exmB (g : Pg) (K : PySem.W.Frag) : Bool := (List.range g.exs.length).all fun c => (List.range g.exs.length).all fun c' => decide (PySem.W.exmOne K (.ref (g.ec K c)) (.ref (g.ec K c')) = some (decide (c = c')))
/-- a table's values -/
def tabB (K : PySem.W.Frag) (t : Str × List (Str × Int)) : Bool := (He.Fa.glo t.1).ok K && t.2.all fun q => match PySem.W.nsIn K (He.ga K t.1) q.1 with
  | some (some (.int j _)) => decide (j = q.2)
  | _ => false
def moreOf (g : Pg) (K : PySem.W.Frag) : Bool := exB g.con K && (g.rf.all (g.rfB K) && (oneQ K && (hdB K && (g.exmB K && g.tbs.all (tabB K)))))
def emptyB (h : Addr → Option Obj) (K : PySem.W.Frag) : Bool := (cods K).all fun c => match h c.2.1 with
  | some o => He.emptyTab o
  | none => false
abbrev AlC : Type := (He.AlD × List (Option (List (Option (Str × Int))))) × Bool
def Pg.obsK (g : Pg) (h : Addr → Option Obj) (K : PySem.W.Frag) : AlC := ((He.obsD g.fa g.fn K, g.tbs.map fun t => He.dicW K (He.ga K t.1)), moreOf g K && emptyB h K)
def Pg.valC (g : Pg) (w : World) : AlC := ((He.valD g.fn, g.tbs.map fun t => some (He.keysIn w.params (t.2.map (·.1)))), true)
def Pg.obsG (g : Pg) (n : Nat) (h : Addr → Option Obj) : AlC := g.obsK h (He.frT h (He.asD h n))
structure SaysC (g : Pg) (w : World) (h : Heap) (K : PySem.W.Frag) : Prop where
  d : He.SaysD g.fa g.fn K
  tab : (g.tbs.map fun t => He.dicW K (He.ga K t.1)) = g.tbs.map fun t => some (He.keysIn w.params (t.2.map (·.1)))
  more : moreOf g K = true
  out : ∀ c ∈ cods K, K.lookup c.2.1 = none
  empty : ∀ c ∈ cods K, h.get? c.2.1 = some { cls := .none, data := .fields #[] }
theorem saysC_of {g : Pg} {w : World} {h : Heap} {as : List Addr} (e : g.obsK h.get? (He.frT h.get? as) = g.valC w) : SaysC g w h (He.frT h.get? as) := by
  obtain ⟨e1, e2⟩ := Prod.mk.inj e
  obtain ⟨e1, e3⟩ := Prod.mk.inj e1
  rw [Bool.and_eq_true] at e2
  have key : ∀ c ∈ cods (He.frT h.get? as), ∃ o, h.get? c.2.1 = some o ∧ He.emptyTab o = true := fun c hc => by
    have z := List.all_eq_true.mp e2.2 c hc
    cases q : h.get? c.2.1 with
    | none => rw [q] at z; cases z
    | some o => rw [q] at z; exact ⟨o, rfl, z⟩
  refine ⟨e1, e3, e2.1, fun c hc => ?_, fun c hc => ?_⟩
  · obtain ⟨o, q, z⟩ := key c hc
    exact He.frT_none q z
  · obtain ⟨o, q, z⟩ := key c hc
    rw [q, He.emptyTab_eq z]
def Pg.hook (g : Pg) (n : Nat) : PySem.W.Hook where
  α := AlC
  obs := fun s => g.obsG n s.heap.get?
  val := fun w => g.valC w
  says := fun w h => ∃ K : PySem.W.Frag, K.In h ∧ SaysC g w h K
  of := fun _ _ e => ⟨_, He.frT_in, saysC_of e⟩
  keeps := fun _ _ _ ⟨K, hK, c⟩ k => ⟨K, PySem.W.Frag.In.keeps hK k, ⟨c.d, c.tab, c.more, c.out, fun p hp => k _ _ (c.empty p hp)⟩⟩
theorem Pg.obsG_eq {g : Pg} {n : Nat} {h : Addr → Option Obj} {s : Shared} (e : ∀ a, h a = s.heap.get? a) : g.obsG n h = (g.hook n).obs s := by
  have e : h = s.heap.get? := funext e
  rw [e] <;> rfl
/-- the same hook, by all objects -/
def Pg.hookR (g : Pg) : PySem.W.Hook where
  α := AlC
  obs := fun s => g.obsK s.heap.get? (He.frT s.heap.get? (List.range s.heap.objs.size))
  val := fun w => g.valC w
  says := fun w h => ∃ K : PySem.W.Frag, K.In h ∧ SaysC g w h K
  of := fun _ _ e => ⟨_, He.frT_in, saysC_of e⟩
  keeps := fun _ _ _ ⟨K, hK, c⟩ k => ⟨K, PySem.W.Frag.In.keeps hK k, ⟨c.d, c.tab, c.more, c.out, fun p hp => k _ _ (c.empty p hp)⟩⟩
def Pg.obR (g : Pg) (s : PySem.W.SharedT) : AlC := g.obsK (HandSHeadRun.getT s) (He.frT (HandSHeadRun.getT s) (List.range s.n))
theorem Pg.obR_eq (g : Pg) (s : PySem.W.SharedT) : g.obR s = g.hookR.obs s.abs := by
  have e : HandSHeadRun.getT s = s.abs.heap.get? := funext (HandSHeadRun.getT_eq s)
  have n : s.abs.heap.objs.size = s.n := PySem.W.absHeap_size _ _ _
  show g.obsK (HandSHeadRun.getT s) (He.frT (HandSHeadRun.getT s) (List.range s.n)) = g.obsK s.abs.heap.get? (He.frT s.abs.heap.get? (List.range s.abs.heap.objs.size))
  rw [n, e]
/-! ### the head's run in parts -/
def kR (s : PySem.W.SharedT) : PySem.W.Frag := He.frT (HandSHeadRun.getT s) (List.range s.n)
open PySem.W HandSHeadRun in
theorem run_parts {g : Pg} {r : OpenRow} {q : Program} {M : Nat} {loose : List Str} {w : World}
    (h1 : ∀ os : OsState, (endF (stepQ (denQ tabQ) r.prog w) M r.prog w os).map (fun s => (looksF r.prog (boot_heap w.params) s.abs, seenQ q loose (importedModules r.prog.main.body) (fun s => xlAt q [] s && recOk r.toRowW.records s) s.abs)) = some (true, openGood q loose))
    (h2 : ∀ os : OsState, (endF (stepQ (denQ tabQ) r.prog w) M r.prog w os).map (fun s => He.obsD g.fa g.fn (kR s)) = some (He.valD g.fn))
    (h3 : ∀ os : OsState, (endF (stepQ (denQ tabQ) r.prog w) M r.prog w os).map (fun s => (g.tbs.map fun t => He.dicW (kR s) (He.ga (kR s) t.1), moreOf g (kR s) && emptyB (getT s) (kR s))) = some (g.tbs.map fun t => some (He.keysIn w.params (t.2.map (·.1))), true)) :
    RunEq r q g.hookR g.obR M loose w := fun os => by
  have a1 := h1 os
  have a2 := h2 os
  have a3 := h3 os
  cases e : endF (stepQ (denQ tabQ) r.prog w) M r.prog w os with
  | none => rw [e] at a1; cases a1
  | some s =>
    rw [e] at a1 a2 a3
    have b1 := Prod.mk.inj (Option.some.inj a1)
    have b2 : He.obsD g.fa g.fn (kR s) = He.valD g.fn := Option.some.inj a2
    have b3 := Prod.mk.inj (Option.some.inj a3)
    have eo : g.obR s = g.valC w := by
      show ((He.obsD g.fa g.fn (kR s), g.tbs.map fun t => He.dicW (kR s) (He.ga (kR s) t.1)), moreOf g (kR s) && emptyB (getT s) (kR s)) = ((He.valD g.fn, g.tbs.map fun t => some (He.keysIn w.params (t.2.map (·.1)))), true)
      rw [b2, b3.1, b3.2]
    show some (_, _, g.obR s) = some (true, openGood q loose, g.valC w)
    rw [eo, b1.1, b1.2]
/-! ### what stands of the text -/
structure Facts (g : Pg) (w : World) (K : PySem.W.Frag) (mg : Str → Option Value) : Prop where
  fn : ∀ (i : Nat) (t : Tp), g.ds[i]? = some t → mg t.fd.name = some (.ref (He.ga K t.fd.name)) ∧ ∃ fd, FunD K t.x t.q (defArgs t.st) (defBody t.st) (defScope t.st) [] [] (He.ga K t.fd.name) fd
  free : ∀ n, g.free.contains n = true → mg n = none
  con : ∀ n d, g.con.lookup n = some d → ∃ v u, mg n = some u ∧ RelV v u ∧ ∀ H, Rp K H v d
  exc : ∀ (c : Nat) (n : Str), g.exs[c]? = some n → mg n = some (.ref (He.ga K n)) ∧ (He.Fa.exc n).ok K = true
  rf : ∀ r ∈ g.rf, mg r.2.1 = some (.ref (He.ga K r.2.1)) ∧ (∀ n ∈ r.2.2.1, mg n = some (.ref (He.ga K n))) ∧ g.rfB K r = true
  one : oneB K = true
  exm : g.exmB K = true
  tbl : ∀ n tab, g.tbs.contains (n, tab) = true → ∃ d es m, mg n = some (.ref d) ∧ KDict K w d es m ∧ ∀ z, ∃ r, PySem.W.nsIn K d z = some r ∧ match tab.lookup z with
    | some i => ∃ u, r = some u ∧ RelV (.int i) u
    | none => r = none
theorem keys_look {K : PySem.W.Frag} {w : World} {a : Addr} {ks : List Str} (h : He.dicW K a = some (He.keysIn w.params ks)) {z : Str} (hz : z ∉ ks) : PySem.W.nsIn K a z = some none := by
  obtain ⟨es, n, D⟩ := He.dicW_ok h
  have e : es.toList.map He.keyOf = He.keysIn w.params ks := by
    unfold He.dicW at h
    rw [D.at_] at h
    have low := D.low
    have h : (match decide ("dict" = "dict") && ((#[] : Array (Option Value)).isEmpty && !(a == sysModules)) with
      | true => some (es.toList.map He.keyOf)
      | false => none) = some (He.keysIn w.params ks) := h
    rw [low] at h
    exact Option.some.inj h
  have all : ∀ (l : List DictEntry) (ks : List Str), l.map He.keyOf = He.keysIn w.params ks → z ∉ ks → l.find? (·.key.isStr z) = none ∧ l.any (·.refKey) = false := by
    intro l
    induction l with
    | nil => intro ks _ _; exact ⟨rfl, rfl⟩
    | cons d l ih =>
      intro ks h1 h2
      cases ks with
      | nil => cases h1
      | cons k ks =>
        have h1 : He.keyOf d :: l.map He.keyOf = some (k, PyData.keyHash w.params k) :: He.keysIn w.params ks := h1
        injection h1 with h3 h4
        obtain ⟨i1, i2⟩ := ih ks h4 fun y => h2 (List.mem_cons_of_mem _ y)
        unfold He.keyOf at h3
        split at h3
        · rename_i x t q
          have hx : x = k := (Prod.mk.inj (Option.some.inj h3)).1
          subst hx
          refine ⟨?_, ?_⟩
          · rw [List.find?_cons, q]
            have nk : (Value.str x t).isStr z = false := by
              have c : x ≠ z := fun y => h2 (y ▸ List.mem_cons_self)
              show (x == z) = false
              exact beq_eq_false_iff_ne.mpr c
            rw [nk]
            exact i1
          · rw [List.any_cons, i2]
            unfold DictEntry.refKey
            rw [q] <;> rfl
        · cases h3
  obtain ⟨a1, a2⟩ := all _ _ e hz
  unfold PySem.W.nsIn
  rw [D.at_]
  show (match es.toList.find? (·.key.isStr z) with
    | some e => some (some e.val)
    | none => if es.toList.any (·.refKey) then none else some none) = _
  rw [a1]
  show (if es.toList.any (·.refKey) then none else some none) = _
  rw [a2]
  rfl
theorem look_not {z : Str} : ∀ {tab : List (Str × Int)}, tab.lookup z = none → z ∉ tab.map (·.1)
  | [], _ => fun h => by cases h
  | (k, v) :: tab, h => fun hm => by
    rw [List.lookup_cons] at h
    cases q : z == k with
    | true => rw [q] at h; cases h
    | false =>
      rw [q] at h
      rcases List.mem_cons.mp hm with e | e
      · have e : z = k := e
        rw [e] at q
        simp at q
      · exact look_not h e
theorem look_mem {z : Str} {i : Int} {tab : List (Str × Int)} (h : tab.lookup z = some i) : (z, i) ∈ tab := by
  obtain ⟨l1, l2, e, _⟩ := List.lookup_eq_some_iff.mp h
  rw [e]
  exact List.mem_append_right _ List.mem_cons_self
theorem Pg.facts {g : Pg} {w : World} {K : PySem.W.Frag} {h : Heap} {mg : Str → Option Value} (X : K.In h) (G : h.Ns mainGlobals mg) (c : SaysC g w h K) : Facts g w K mg := by
  have c1 : He.SaysD g.fa g.fn K := c.d
  have al : ∀ f ∈ g.fa, f.ok K = true := fun f hf => by
    obtain ⟨i, hi, e⟩ := List.getElem_of_mem hf
    exact c1.fact i (by rw [List.getElem?_eq_getElem hi, e])
  have cm := c.more
  unfold moreOf at cm
  rw [Bool.and_eq_true, Bool.and_eq_true, Bool.and_eq_true] at cm
  have c2 := List.all_eq_true.mp (show g.con.all (conB K) = true from cm.1)
  refine ⟨fun i t ht => ⟨He.glo_ok X G (al _ (List.mem_append_left _ (List.mem_map_of_mem (List.mem_of_getElem? ht)))), ?_⟩, fun n hn => ?_, fun n d hd => ?_, fun cc n hn => ⟨?_, ?_⟩, fun r hr => ?_, oneQ_ok cm.2.2.1, ?_, fun n d hd => ?_⟩
  · exact c1.def_ i (d := t.dd) (by unfold Pg.fn; rw [List.getElem?_map, ht]; rfl)
  · exact He.free_ok X G (al _ (List.mem_append_right _ (List.mem_append_right _ (List.mem_append_right _ (List.mem_map_of_mem (by simpa using hn))))))
  · have hm : (n, d) ∈ g.con := by
      obtain ⟨l1, l2, e, _⟩ := List.lookup_eq_some_iff.mp hd
      rw [e]
      exact List.mem_append_right _ List.mem_cons_self
    have z := c2 _ hm
    unfold conB at z
    split at z
    · rename_i u e
      obtain ⟨v, r, k⟩ := vB_ok z
      exact ⟨v, u, PySem.W.mg_of X G e, r, k⟩
    · cases z
  · exact He.glo_ok X G (al _ (List.mem_append_right _ (List.mem_append_left _ (List.mem_map_of_mem (List.mem_of_getElem? hn)))))
  · exact al _ (List.mem_append_right _ (List.mem_append_right _ (List.mem_append_left _ (List.mem_map_of_mem (List.mem_of_getElem? hn)))))
  · have z := List.all_eq_true.mp cm.2.1 r hr
    have z' := z
    unfold Pg.rfB at z'
    rw [Bool.and_eq_true, Bool.and_eq_true] at z'
    refine ⟨He.glo_ok X G z'.1.1, fun n hn => ?_, z⟩
    have y := List.all_eq_true.mp z'.1.2 n hn
    rw [Bool.and_eq_true] at y
    exact He.glo_ok X G y.1
  · have z := cm.2.2.2
    rw [Bool.and_eq_true, Bool.and_eq_true] at z
    exact z.2.1
  · have z := cm.2.2.2
    rw [Bool.and_eq_true, Bool.and_eq_true] at z
    have hn : (n, d) ∈ g.tbs := by simpa using hd
    have y := List.all_eq_true.mp z.2.2 _ hn
    unfold tabB at y
    rw [Bool.and_eq_true] at y
    obtain ⟨y1, y2⟩ := y
    have dw : He.dicW K (He.ga K n) = some (He.keysIn w.params (d.map (·.1))) := List.map_inj_left.mp c.tab _ hn
    obtain ⟨es, m, D⟩ := He.dicW_ok dw
    refine ⟨_, es, m, He.glo_ok X G y1, D, fun z => ?_⟩
    cases q : d.lookup z with
    | none => exact ⟨none, keys_look dw (look_not q), rfl⟩
    | some i =>
      have y3 := List.all_eq_true.mp y2 _ (look_mem q)
      split at y3
      · rename_i j t e
        have e : PySem.W.nsIn K (He.ga K n) z = some (some (.int j t)) := e
        have y3 : j = i := of_decide_eq_true y3
        exact ⟨_, e, _, rfl, ⟨t, by rw [y3]⟩⟩
      · cases y3
/-! ### each def keeps its run's promise -/
section
variable {g : Pg} {P : Program} {w : World} {K : PySem.W.Frag} {mg : Str → Option Value} {base : Heap}
theorem io_at' {f : Nat} {t : Tp} (k : Nat) (h : g.ds[f]? = some t) : (calAt g.pr k).io f = t.fd.io := by
  have e : g.pr.defs[f]? = some t.fd := by
    show (g.ds.map (·.fd))[f]? = _
    rw [List.getElem?_map, h]
    rfl
  rcases k with _ | _ | k <;> (show ((g.pr.defs[f]?.map (·.io)).getD []) = _; rw [e]; rfl)
theorem run_at' {f : Nat} {t : Tp} (k : Nat) (h : g.ds[f]? = some t) : (calAt g.pr (k + 1)).run f = runFd (calAt g.pr k) t.fd := by
  have e : g.pr.defs[f]? = some t.fd := by
    show (g.ds.map (·.fd))[f]? = _
    rw [List.getElem?_map, h]
    rfl
  funext vs
  cases k <;> (show (match g.pr.defs[f]? with
    | some fd => runFd (calAt g.pr _) fd vs
    | none => CR.bad) = _) <;> rw [e]
theorem con_at' (k : Nat) : (calAt g.pr k).con = fun n => g.con.lookup n := by rcases k with _ | _ | k <;> rfl
theorem range_get {l : List Nat} {c k : Nat} (h : l[c]? = some k) : c ∈ List.range l.length ∧ l.getD c 0 = k := by
  refine ⟨List.mem_range.mpr (List.getElem?_eq_some_iff.mp h).1, ?_⟩
  rw [List.getD_eq_getElem?_getD, h]
  rfl
theorem Facts.refF {r : Nat × Str × List Str × List Nat} (T : Facts g w K mg) (hr : r ∈ g.rf) (hf : g.free.contains "isinstance" = true ∧ g.free.contains "range" = true ∧ g.free.contains "ValueError" = true) : RefF K mg (g.ec K) r.2.1 r.2.2.1 r.2.2.2 := by
  obtain ⟨t1, t2, t3⟩ := T.rf r hr
  unfold Pg.rfB at t3
  rw [Bool.and_eq_true, Bool.and_eq_true] at t3
  obtain ⟨⟨_, t4⟩, t5⟩ := t3
  have at_ : ∀ {c k : Nat}, r.2.2.2[c]? = some k → PySem.W.exmOne K (.ref (g.ec K c)) (.ref (He.ga K r.2.1)) = some true ∧ clsB K (g.ec K c) = true ∧ PySem.W.kitOne K (.ref (g.ec K c)) (.type "ValueError") = some true ∧ k < r.2.2.1.length ∧
      ∀ j < r.2.2.1.length, PySem.W.kitOne K (.ref (g.ec K c)) (.ref (He.ga K (r.2.2.1.getD j Str.empty))) = some (decide (j = k)) := fun {c k} h => by
    obtain ⟨m, e⟩ := range_get h
    have z := List.all_eq_true.mp t5 c m
    rw [e] at z
    simp only [Bool.and_eq_true, decide_eq_true_eq] at z
    obtain ⟨⟨⟨⟨z1, z2⟩, z3⟩, z4⟩, z5⟩ := z
    refine ⟨z1, z2, z3, z4, fun j hj => ?_⟩
    exact of_decide_eq_true (List.all_eq_true.mp z5 j (List.mem_range.mpr hj))
  refine ⟨⟨T.free _ hf.1, T.free _ hf.2.1, T.free _ hf.2.2⟩, ⟨_, t1, fun c k h => (at_ h).1⟩, fun j n hn => ?_, fun c k h => ⟨clsB_ok (at_ h).2.1, (at_ h).2.2.1, (at_ h).2.2.2.1⟩⟩
  have hm := List.mem_of_getElem? hn
  have y := List.all_eq_true.mp t4 n hm
  rw [Bool.and_eq_true] at y
  refine ⟨_, t2 n hm, of_decide_eq_true y.2, fun c k h => ?_⟩
  have z := (at_ h).2.2.2.2 j (List.getElem?_eq_some_iff.mp hn).1
  rw [List.getD_eq_getElem?_getD, hn] at z
  exact z
theorem isBad_run {C : Cal} {fd : Fd} (h : isBad fd.body = true) (vs : List Sl) : runFd C fd vs = .bad := by
  unfold isBad at h
  split at h
  · rename_i e
    unfold runFd
    split
    · rw [e]
      rfl
    · rfl
  · cases h
theorem Pg.lev (ck : g.chk = true) (T : Facts g w K mg) (TB : ∀ c ∈ cods K, LamX.TabB base mg c.1 c.2.1) : ∀ (k f : Nat) (t : Tp) (fd : FuncData), g.ds[f]? = some t → FunD K t.x t.q (defArgs t.st) (defBody t.st) (defScope t.st) [] [] (He.ga K t.fd.name) fd →
    FnOk P w K mg base (L2.CX P w) k (He.ga K t.fd.name) fd t.ps (spF K (g.ec K) t.fd.io.length ((calAt g.pr k).run f)) := by
  unfold Pg.chk at ck
  rw [Bool.and_eq_true, Bool.and_eq_true] at ck
  obtain ⟨⟨ck, ckr⟩, ckf⟩ := ck
  have okd : ∀ {f : Nat} {t : Tp}, g.ds[f]? = some t → g.okDef t = true := fun h => List.all_eq_true.mp ck _ (List.mem_of_getElem? h)
  have psl : ∀ {f : Nat} {t : Tp}, g.ds[f]? = some t → t.ps.length = t.fd.io.length := fun {f t} h => by
    have z := okd h
    unfold Pg.okDef at z
    simp only [Bool.and_eq_true, decide_eq_true_eq] at z
    unfold Tp.ps
    rw [List.length_take]
    have := z.1.2
    omega
  have never : ∀ {f : Nat} {t : Tp} {fd : FuncData} {k : Nat}, g.ds[f]? = some t → (∀ as, (calAt g.pr k).run f as = .bad) → FnOk P w K mg base (L2.CX P w) k (He.ga K t.fd.name) fd t.ps (spF K (g.ec K) t.fd.io.length ((calAt g.pr k).run f)) := fun {f t fd k} h hb => by
    refine ⟨fun vs H Q E hs => ?_, fun A outer s H args us vs Q E hr e0 hb' hv hs => ?_⟩
    · obtain ⟨_, _, hl, _⟩ := hs
      rw [psl h]
      exact hl
    · obtain ⟨_, as, _, _, w⟩ := hs
      unfold runR at w
      rw [hb as] at w
      exact w.elim
  intro k
  induction k using Nat.strongRecOn with
  | _ k ih =>
  intro f t fd h F
  match k, ih with
  | 0, ih => exact never h fun _ => rfl
  | k + 1, ih =>
    have z := okd h
    unfold Pg.okDef at z
    simp only [Bool.and_eq_true, decide_eq_true_eq, Bool.or_eq_true] at z
    obtain ⟨⟨⟨z1, z2⟩, z3⟩, z4⟩ := z
    rcases z1 with z1 | z1
    · exact never h fun as => by
        rw [run_at' k h]
        exact isBad_run z1 as
    have S := fnSc_of z2
    obtain ⟨oc, od, dV, kV, doc, pm, an, cdv, ct, osl, rfl, lk, hcd, _, _⟩ := F.ex
    refine fn_of lk hcd S (fun vs H Q E hs => ?_) fun A outer s H vs Q E hr hs => ?_
    · obtain ⟨_, _, hl, _⟩ := hs
      rw [psl h]
      exact hl
    · rw [run_at' k h] at hs
      obtain ⟨Fh, as, hl, k0, w0⟩ := hs
      have fnAt : ∀ j, j ≤ k → ∀ (X : Cx), X.prog = P → X.w = w → X.K = K → X.mg = mg → X.base = base → ∀ (C : Cal), C.io = (calAt g.pr k).io → C.run = (calAt g.pr j).run → ∀ f' n, (g.sx t).fn f' = some n → FnAt X (g.ec K) C j f' n := fun j hj X e1 e2 e3 e4 e5 C e6 e7 f' n hn => by
        obtain ⟨t', ht', rfl⟩ := Option.map_eq_some_iff.mp hn
        obtain ⟨gm, fd', F'⟩ := T.fn f' t' ht'
        have ok' := okd ht'
        unfold Pg.okDef at ok'
        simp only [Bool.and_eq_true, decide_eq_true_eq] at ok'
        refine ⟨_, fd', t'.ps, by rw [e4]; exact gm, by rw [e3]; exact F'.kp, ?_, by rw [e6, io_at' k ht']; exact psl ht', ?_⟩
        · rw [e3]
          exact F'.bindsN fun kV doc pm an cdv ct us hl => bind_ok ok'.2 (by
            have nd := (fnSc_of ok'.1.1.2).nd
            exact nd.sublist (List.take_sublist _ _)) hl
        · rw [e1, e2, e3, e4, e5, e6, e7, io_at' k ht']
          exact ih j (by omega) f' t' fd' ht' F'
      have cx : CtxS (g.ec K) (calAt g.pr k) k (cxOf (L2.CX P w) P w K mg base t.fd.N t.q (defScope t.st) (He.ga K t.fd.name) cdv A outer s H E) (fun cls d _ H' => E cls d H') (g.sx t) := by
        refine ⟨⟨rfl, rfl, S.kind, S.nd, rfl, takes_of rfl rfl rfl rfl, hr, ?_, T.free, fun f' n hn => fnAt k (Nat.le_refl k) _ rfl rfl rfl rfl rfl _ rfl rfl f' n hn, fun n d hd => ?_, fun _ _ => rfl, fun _ => ?_, fun lm run hrun r ks n hk hn => ?_, fun lm run hrun => ?_, fun n tab hn => T.tbl n tab hn⟩, passes_of rfl, fun pn xe c n hn m j p p2 pos hg hdb => ?_, rfl, rfl, fun c n hn => ?_, fun c c' n n' hn hn' => ?_⟩
        · have := hr.un
          show (A.deeper _).units + 65 < cLine
          omega
        · rw [con_at' k] at hd
          exact T.con n d hd
        · obtain ⟨c, rfl⟩ := He.codeIn_ref hcd
          have hm : (c, tabAt K c, t.q ++ ".<locals>." ++ "<lambda>") ∈ cods K := by
            refine List.mem_filterMap.mpr ⟨_, He.lookup_mem lk, ?_⟩
            rfl
          refine ⟨c, tabAt K c, TB _ hm, rfl, List.mem_map.mpr ⟨_, hm, rfl⟩, fun p hp e => ?_⟩
          obtain ⟨q, hq, rfl⟩ := List.mem_map.mp hp
          have z := List.all_eq_true.mp (List.all_eq_true.mp T.one _ hm) q hq
          rw [Bool.or_eq_true] at z
          rcases z with z | z
          · have e : q.2.1 = tabAt K c := e
            rw [e] at z
            simp at z
          · exact (of_decide_eq_true z).symm
        · obtain ⟨t', ht', rfl⟩ := Option.map_eq_some_iff.mp hn
          obtain ⟨rr, hrr, rfl⟩ := Option.map_eq_some_iff.mp hk
          have hmem : (r, rr) ∈ g.rf := by
            obtain ⟨l1, l2, e, _⟩ := List.lookup_eq_some_iff.mp hrr
            rw [e]
            exact List.mem_append_right _ List.mem_cons_self
          have y := List.all_eq_true.mp ckr _ hmem
          unfold Pg.okRef at y
          rw [ht'] at y
          simp only [Bool.and_eq_true, decide_eq_true_eq] at y
          obtain ⟨⟨⟨⟨⟨⟨y1, y2⟩, y3⟩, y4⟩, y5⟩, y6⟩, y7⟩ := y
          obtain ⟨gm, fd', F'⟩ := T.fn r t' ht'
          have S' := fnSc_of y4
          have hf : g.free.contains "isinstance" = true ∧ g.free.contains "range" = true ∧ g.free.contains "ValueError" = true := by
            have lm : (!g.rf.isEmpty) = true := lm
            rw [Bool.or_eq_true] at ckf
            rcases ckf with q | q
            · rw [q] at lm; cases lm
            · simp only [Bool.and_eq_true] at q
              exact ⟨q.1.1, q.1.2, q.2⟩
          have hb := F'.bindsN (ps := ["call"]) fun kV doc pm an cdv ct us hl => bind_ok y3 (by decide) hl
          obtain ⟨oc', od', dV', kV', doc', pm', an', cdv', ct', osl', rfl, lk', hcd', _, _⟩ := F'.ex
          simp only [y5, y6] at lk' hcd' hb
          have k1 : ∃ j, k = j + 2 := by
            rcases k with _ | _ | j
            · cases hrun
            · cases hrun
            · exact ⟨j, rfl⟩
          obtain ⟨j, rfl⟩ := k1
          refine ⟨"call", _, _, _, _, _, _, _, _, _, _, _, _, _, _, rN, gm, F'.kp, lk', hcd', hb, S', rfl, ?_, by decide, by decide, refused_gives (T.refF hmem hf) y1 y2 fun s' => (hr.mono (by omega : 1 ≤ j + 2)).deeper _⟩
          unfold visB at y7
          split at y7 <;> first | (exact .inl (by assumption)) | (exact .inr (.inl (by assumption))) | (exact .inr (.inr (by assumption))) | (cases y7)
        · rcases k with _ | _ | j
          · cases hrun
          · cases hrun
          · refine ⟨j, rfl, fun f' n hn => ?_⟩
            cases hrun
            exact fnAt j (by omega) _ rfl rfl rfl rfl rfl ((calAt g.pr (j + 2)).wr (calAt g.pr j).run) rfl rfl f' n hn
        · obtain ⟨gm, ex⟩ := T.exc c n hn
          obtain ⟨e1, e2, e3, e4⟩ := He.exc_ok ex
          have ec : g.ec K c = He.ga K n := by
            unfold Pg.ec
            rw [List.getD_eq_getElem?_getD, show g.exs[c]? = some n from hn]
            rfl
          rw [ec]
          exact pmk_own PySem.F.excBase_ValueError e1 gm e2 (raises_own e3 e4) hg hdb
        · have ec : g.ec K c = He.ga K n := by
            unfold Pg.ec
            rw [List.getD_eq_getElem?_getD, show g.exs[c]? = some n from hn]
            rfl
          rw [ec]
          exact (T.exc c n hn).1
        · have h1 : c < g.exs.length := (List.getElem?_eq_some_iff.mp (show g.exs[c]? = some n from hn)).1
          have h2 : c' < g.exs.length := (List.getElem?_eq_some_iff.mp (show g.exs[c']? = some n' from hn')).1
          exact of_decide_eq_true (List.all_eq_true.mp (List.all_eq_true.mp T.exm c (List.mem_range.mpr h1)) c' (List.mem_range.mpr h2))
      exact ⟨_, sndSts (g.ec K) (calAt g.pr k) k (ioAt 0 t.fd.io) t.fd.body _ _ _ _ cx z1, body_of k0 w0⟩
end
end Hg
set_option Elab.async false
set_option linter.all false
set_option maxRecDepth 100000
set_option maxHeartbeats 400000
/-! The law's call. -/
namespace Hg
open PySem PySem.Spec PyProof.Rows L2 RZ RT
def lawArg (ns : List Int) : Sl := .sh (.list (ns.map .int))
theorem rpa_ints {K : PySem.W.Frag} {H : Hp} : ∀ ns : List Int, RpA K H (ns.map V.int) (ns.map PyData.int)
  | [] => .nil
  | n :: ns => .cons (.int n) (rpa_ints ns)
theorem sp_law {K : PySem.W.Frag} {EC : Nat → Addr} {run : List Sl → CR} {H : Hp} {a : Addr} {ns : List Int} (h : RdK K H a (ns.map V.int)) (tb : Tb K H) (e : run [lawArg ns] = .ok (.sh (.bool true)) []) :
    spF K EC 1 run [.ref a] H (fun v _ => v = .bl true) fun _ _ _ => False := by
  have no : ∀ b, ¬ Nn (fun _ => False) [lawArg ns] [some (V.ref a)] b := fun b z => z.elim id fun ⟨i, o, e1, _⟩ => by
    cases i with
    | zero => cases (show some (lawArg ns) = some (Sl.ow o) from e1)
    | succ i => simp at e1
  have le : Le H (Hid (Nn (fun _ => False) [lawArg ns] [some (V.ref a)]) H) := fun b o _ z => hid_iff.mpr ⟨no b, z⟩
  refine ⟨fun _ => False, [lawArg ns], rfl, ⟨rfl, fun i d z => ?_, fun i o z => ?_, fun i j o o' p z => ?_, fun b z => (no b (.inr z)).elim, fun b z => z.elim, tb⟩, ?_⟩
  · cases i with
    | zero =>
      cases (show some (lawArg ns) = some (Sl.sh d) from z)
      exact ⟨.ref a, rfl, .lst (le.rdK h) (rpa_ints ns)⟩
    | succ i => simp at z
  · cases i with
    | zero => cases (show some (lawArg ns) = some (Sl.ow o) from z)
    | succ i => simp at z
  · cases i with
    | zero => cases (show some (lawArg ns) = some (Sl.ow o) from z)
    | succ i => simp at z
  · unfold runR
    rw [e]
    intro v H' q
    cases AftD.rp q
    rfl
/-- a law by its run -/
theorem walk_run {g : Pg} {l : PySem.W.OpenLaw} {n k li m : Nat} {t : Tp} {q : Program} {loose : List Str} {XP : (Str → Option Value) → Heap → Prop} {d : DefRec} {x : Str} (ck : g.chk = true) (ht : g.ds[li]? = some t) (hx : t.ps = [x]) (hio : t.fd.io = [false]) (hd0 : d.name = t.fd.name)
    (hn : l.most = some n) (hn2 : n ≤ sizeLine) (hdf : d.params.defaults = []) (hr : Room k callerA) (sem : ∀ ns : List Int, ns.length ≤ n → (∀ z ∈ ns, Builtin.Int.intBits z ≤ 1048576) → (calAt g.pr k).run li [lawArg ns] = .ok (.sh (.bool true)) []) :
    PySem.W.WalkO q loose XP (g.hook m).says l.row.toRowW d [] (fun f vs => PySem.call f vs) := by
  refine Att.attach_callB hn hdf fun w s₀ s₁ mg mb fa o pm cd doc a vs ns G Y ho hd hcd hmg hobj hints hlen hbits hg => ?_
  obtain ⟨K, KX, c⟩ := Y
  have T := g.facts KX G.T.g c
  obtain ⟨gm, fd, F⟩ := T.fn li t ht
  rw [hd0, gm] at hmg
  cases hmg
  have ok : g.okDef t = true := by
    have ck := ck
    unfold Pg.chk at ck
    rw [Bool.and_eq_true, Bool.and_eq_true] at ck
    exact List.all_eq_true.mp ck.1.1 t (List.mem_of_getElem? ht)
  unfold Pg.okDef at ok
  simp only [Bool.and_eq_true, decide_eq_true_eq] at ok
  have rdk : ∀ {H : Hp}, SqL K H a (ns.map V.int) → RdK K H a (ns.map V.int) := fun {H} h => by
    rcases h with h | ⟨u, its, z, e1, _, _, e4, e5, r⟩
    · exact .inl h
    · have e2 := KX _ _ e1
      rw [hobj] at e2
      cases e2
      cases (show Data.seq vs.toArray _ = Data.seq its z from e4)
      exact .inr ⟨vs, e1, by rw [List.size_toArray] at e5; exact e5, by simpa using r⟩
  have tab : ∀ p ∈ (cods K).map (fun c => (c.1, c.2.1)), ∃ e ∈ cods K, p = (e.1, e.2.1) := fun p hp => by
    obtain ⟨e, he, rfl⟩ := List.mem_map.mp hp
    exact ⟨e, he, rfl⟩
  have hd : hdB K = true := by
    have z := c.more
    unfold moreOf at z
    rw [Bool.and_eq_true, Bool.and_eq_true, Bool.and_eq_true, Bool.and_eq_true] at z
    exact z.2.2.2.1
  refine LamX.law_callTs (cs := (cods K).map fun c => (c.1, c.2.1)) (fd := fd) (sp := spF K (g.ec K) t.fd.io.length ((calAt g.pr k).run li)) (x := x) KX G.T.g G.T.b G.T.builtins G.T.nolimit hg (fun p hp => ?_) (fun p hp => ?_) (fun p hp => ?_) G.T.bmain hobj hints (Nat.le_trans hlen hn2) hr (fun base hb hns TB => ?_) (fun s u => ?_) (fun H hT hS => ?_) (CX := L2.CX l.prog w) fun H e s' z => ?_
  · obtain ⟨e, he, rfl⟩ := tab p hp
    exact c.empty e he
  · obtain ⟨e, he, rfl⟩ := tab p hp
    exact c.out e he
  · obtain ⟨e, he, rfl⟩ := tab p hp
    exact PySem.W.codeHd_of_K KX (List.all_eq_true.mp hd e he)
  · have z := g.lev (P := l.prog) (w := w) (base := base) ck T (fun e he => TB (e.1, e.2.1) (List.mem_map.mpr ⟨e, he, rfl⟩)) k li t fd ht F
    rw [hx] at z
    exact z
  · have z := F.bindsA (ps := t.ps) (fun kV doc pm an cdv ct us hl => bind_ok ok.2 ((fnSc_of ok.1.1.2).nd.sublist (List.take_sublist _ _)) hl) s [u] (by rw [hx] <;> rfl)
    rw [hx] at z
    exact z
  · rw [hio]
    refine sp_law (rdk hS) ?_ (sem ns hlen hbits)
    intro p hp
    obtain ⟨e, he, rfl⟩ := List.mem_map.mp hp
    exact LamX.TabS.nil (hT (e.1, e.2.1) (List.mem_map.mpr ⟨e, he, rfl⟩))
  · obtain ⟨_, _, _, _, _, _, _, _, _, _, _, _, z⟩ := z
    exact z.elim
end Hg
set_option Elab.async false
set_option linter.all false
set_option maxRecDepth 100000
set_option maxHeartbeats 0
/-! The terms. -/
namespace Lw
open PySem PySem.Spec PyProof.Rows Hg
def f_is_whole : Fd := ⟨"is_whole", ["thing"], [false],
 .cons (.ret (.and (.cons (.isi (.var 0) [.int]) (.cons (.not (.isi (.var 0) [.bool])) .nil)))) .nil⟩
abbrev i_is_whole : Nat := 0
def f_is_fraction : Fd := ⟨"is_fraction", ["thing"], [false],
 .cons (.ite (.or (.cons (.not (.isi (.var 0) [.tuple])) (.cons (.cmp .NotEq (.bf .len (.cons (.var 0) .nil)) (.int 2)) (.cons (.not (.call 0 (.cons (.ix (.var 0) (.int 0)) .nil))) (.cons (.not (.call 0 (.cons (.ix (.var 0) (.int 1)) .nil))) .nil))))) (.cons (.ret (.bl false)) .nil) (.nil))
 (.cons (.ite (.cmp .Lt (.ix (.var 0) (.int 1)) (.int 1)) (.cons (.ret (.bl false)) .nil) (.nil))
 (.cons (.ret (.cmp .Eq (.call 2 (.cons (.var 0) .nil)) (.int 1))) .nil))⟩
abbrev i_is_fraction : Nat := 1
def f_divisor_of : Fd := ⟨"divisor_of", ["fraction", "one", "other"], [false],
 .cons (.par 1 2 (.bf .abs (.cons (.ix (.var 0) (.int 0)) .nil)) (.ix (.var 0) (.int 1)))
 (.cons (.whl (.cmp .Gt (.var 2) (.int 0)) (.cons (.par 1 2 (.var 2) (.bin .Mod (.var 1) (.var 2))) .nil))
 (.cons (.ret (.var 1)) .nil))⟩
abbrev i_divisor_of : Nat := 2
def f_is_joint : Fd := ⟨"is_joint", ["thing", "many"], [false, false],
 .cons (.ret (.and (.cons (.call 0 (.cons (.var 0) .nil)) (.cons (.chain .LtE .Lt (.int 0) (.var 0) (.var 1)) .nil)))) .nil⟩
abbrev i_is_joint : Nat := 3
def f_is_above : Fd := ⟨"is_above", ["thing"], [false],
 .cons (.ret (.and (.cons (.call 1 (.cons (.var 0) .nil)) (.cons (.cmp .Gt (.ix (.var 0) (.int 0)) (.int 0)) .nil)))) .nil⟩
abbrev i_is_above : Nat := 4
def f_are_joints : Fd := ⟨"are_joints", ["one", "other", "many"], [false, false, false],
 .cons (.ret (.and (.cons (.call 3 (.cons (.var 0) (.cons (.var 2) .nil))) (.cons (.call 3 (.cons (.var 1) (.cons (.var 2) .nil))) (.cons (.cmp .NotEq (.var 0) (.var 1)) .nil))))) .nil⟩
abbrev i_are_joints : Nat := 5
def f_is_step : Fd := ⟨"is_step", ["step", "ahead"], [false, false],
 .cons (.ite (.or (.cons (.not (.isi (.var 0) [.tuple])) (.cons (.cmp .Eq (.var 0) (.tup (.nil))) (.cons (.not (.isi (.ix (.var 0) (.int 0)) [.str])) .nil)))) (.cons (.ret (.bl false)) .nil) (.nil))
 (.cons (.ite (.cmp .NotEq (.cget "LENGTHS" [("fix", 3), ("crank", 3), ("pair", 6), ("like", 5)] (.ix (.var 0) (.int 0))) (.bf .len (.cons (.var 0) .nil))) (.cons (.ret (.bl false)) .nil) (.nil))
 (.cons (.ite (.cmp .Eq (.ix (.var 0) (.int 0)) (.str "fix")) (.cons (.ret (.and (.cons (.call 1 (.cons (.ix (.var 0) (.int 1)) .nil)) (.cons (.call 1 (.cons (.ix (.var 0) (.int 2)) .nil)) .nil)))) .nil) (.nil))
 (.cons (.ite (.cmp .Eq (.ix (.var 0) (.int 0)) (.str "crank")) (.cons (.ret (.and (.cons (.call 3 (.cons (.ix (.var 0) (.int 1)) (.cons (.bf .len (.cons (.var 1) .nil)) .nil))) (.cons (.cmp .Eq (.ix (.ix (.var 1) (.ix (.var 0) (.int 1))) (.int 0)) (.str "fix")) (.cons (.call 4 (.cons (.ix (.var 0) (.int 2)) .nil)) .nil))))) .nil) (.nil))
 (.cons (.ite (.not (.call 5 (.cons (.ix (.var 0) (.int 1)) (.cons (.ix (.var 0) (.int 2)) (.cons (.bf .len (.cons (.var 1) .nil)) .nil))))) (.cons (.ret (.bl false)) .nil) (.nil))
 (.cons (.ite (.cmp .Eq (.ix (.var 0) (.int 0)) (.str "like")) (.cons (.ret (.and (.cons (.call 1 (.cons (.ix (.var 0) (.int 3)) .nil)) (.cons (.call 1 (.cons (.ix (.var 0) (.int 4)) .nil)) .nil)))) .nil) (.nil))
 (.cons (.ret (.and (.cons (.call 4 (.cons (.ix (.var 0) (.int 3)) .nil)) (.cons (.call 4 (.cons (.ix (.var 0) (.int 4)) .nil)) (.cons (.call 0 (.cons (.ix (.var 0) (.int 5)) .nil)) (.cons (.chain .LtE .LtE (.int 0) (.ix (.var 0) (.int 5)) (.int 1)) .nil)))))) .nil))))))⟩
abbrev i_is_step : Nat := 6
abbrev b1_is_machine : Hg.Sts := .cons (.ite (.not (.call 6 (.cons (.var 1) (.cons (.sl (.var 0) (.non) (.var 2)) .nil)))) (.cons (.ret (.bl false)) .nil) (.nil)) .nil
abbrev l0_is_machine : Hg.St := .fo (.enu (.var 0)) (.tup (.cons (.name 2) (.cons (.name 1) .nil))) (b1_is_machine)
def f_is_machine : Fd := ⟨"is_machine", ["thing", "step", "number"], [false],
 .cons (.ite (.or (.cons (.not (.isi (.var 0) [.tuple])) (.cons (.not (.chain .LtE .LtE (.int 1) (.bf .len (.cons (.var 0) .nil)) (.glo "MOST_STEPS"))) .nil))) (.cons (.ret (.bl false)) .nil) (.nil))
 (.cons (l0_is_machine)
 (.cons (.ret (.bl true)) .nil))⟩
abbrev i_is_machine : Nat := 7
def f__law_cell_at : Fd := ⟨"_law_cell_at", ["script", "k"], [false, false],
 .cons (.ite (.cmp .Lt (.var 1) (.bf .len (.cons (.var 0) .nil))) (.cons (.ret (.ix (.var 0) (.var 1))) .nil) (.nil))
 (.cons (.ret (.int 0)) .nil)⟩
abbrev i__law_cell_at : Nat := 8
def f__law_state : Fd := ⟨"_law_state", ["script", "k", "cell"], [false, false],
 .cons (.asg (.name 2) (.call 8 (.cons (.var 0) (.cons (.var 1) .nil))))
 (.cons (.ite (.cmp .GtE (.var 2) (.bin .Pow (.int 10) (.int 18))) (.cons (.ret (.lst (.cons (.bin .Sub (.var 2) (.bin .Pow (.int 10) (.int 18))) (.cons (.bl true) .nil)))) .nil) (.nil))
 (.cons (.ret (.lst (.cons (.bin .Mod (.var 2) (.int 2147483647)) (.cons (.bl false) .nil)))) .nil))⟩
abbrev i__law_state : Nat := 9
def f__law_take : Fd := ⟨"_law_take", ["state", "many", "found", "mixed"], [true, false],
 .cons (.ite (.ix (.var 0) (.int 1)) (.cons (.asg (.name 2) (.bin .Mod (.ix (.var 0) (.int 0)) (.var 1)))
 (.cons (.six 0 (.int 0) (.bin .FloorDiv (.ix (.var 0) (.int 0)) (.var 1)))
 (.cons (.ret (.var 2)) .nil))) (.nil))
 (.cons (.six 0 (.int 0) (.bin .Mod (.bin .Add (.bin .Mult (.ix (.var 0) (.int 0)) (.int 48271)) (.int 29)) (.int 2147483647)))
 (.cons (.asg (.name 3) (.bin .Mod (.bin .Add (.bin .Add (.bin .Mult (.ix (.var 0) (.int 0)) (.ix (.var 0) (.int 0))) (.bin .Mult (.int 39373) (.ix (.var 0) (.int 0)))) (.int 7)) (.int 2147483629)))
 (.cons (.asg (.name 3) (.bin .Mod (.bin .Add (.bin .Mult (.var 3) (.var 3)) (.bin .Mult (.int 16807) (.var 3))) (.int 2147483587)))
 (.cons (.ret (.bin .Mod (.bin .FloorDiv (.var 3) (.int 8)) (.var 1))) .nil))))⟩
abbrev i__law_take : Nat := 10
def f__law_divisor : Fd := ⟨"_law_divisor", ["one", "other"], [false, false],
 .cons (.asg (.name 0) (.bf .abs (.cons (.var 0) .nil)))
 (.cons (.asg (.name 1) (.bf .abs (.cons (.var 1) .nil)))
 (.cons (.whl (.cmp .Gt (.var 1) (.int 0)) (.cons (.par 0 1 (.var 1) (.bin .Mod (.var 0) (.var 1))) .nil))
 (.cons (.ret (.var 0)) .nil)))⟩
abbrev i__law_divisor : Nat := 11
def f__law_ratio : Fd := ⟨"_law_ratio", ["top", "bottom", "by"], [false, false],
 .cons (.asg (.name 2) (.call 11 (.cons (.var 0) (.cons (.var 1) .nil))))
 (.cons (.ite (.cmp .Lt (.var 1) (.int 0)) (.cons (.asg (.name 2) (.bin .Sub (.int 0) (.var 2))) .nil) (.nil))
 (.cons (.ret (.tup (.cons (.bin .FloorDiv (.var 0) (.var 2)) (.cons (.bin .FloorDiv (.var 1) (.var 2)) .nil)))) .nil))⟩
abbrev i__law_ratio : Nat := 12
def f__law_plus : Fd := ⟨"_law_plus", ["one", "other"], [false, false],
 .cons (.ret (.call 12 (.cons (.bin .Add (.bin .Mult (.ix (.var 0) (.int 0)) (.ix (.var 1) (.int 1))) (.bin .Mult (.ix (.var 1) (.int 0)) (.ix (.var 0) (.int 1)))) (.cons (.bin .Mult (.ix (.var 0) (.int 1)) (.ix (.var 1) (.int 1))) .nil)))) .nil⟩
abbrev i__law_plus : Nat := 13
def f__law_minus : Fd := ⟨"_law_minus", ["one", "other"], [false, false],
 .cons (.ret (.call 12 (.cons (.bin .Sub (.bin .Mult (.ix (.var 0) (.int 0)) (.ix (.var 1) (.int 1))) (.bin .Mult (.ix (.var 1) (.int 0)) (.ix (.var 0) (.int 1)))) (.cons (.bin .Mult (.ix (.var 0) (.int 1)) (.ix (.var 1) (.int 1))) .nil)))) .nil⟩
abbrev i__law_minus : Nat := 14
def f__law_times : Fd := ⟨"_law_times", ["one", "other"], [false, false],
 .cons (.ret (.call 12 (.cons (.bin .Mult (.ix (.var 0) (.int 0)) (.ix (.var 1) (.int 0))) (.cons (.bin .Mult (.ix (.var 0) (.int 1)) (.ix (.var 1) (.int 1))) .nil)))) .nil⟩
abbrev i__law_times : Nat := 15
def f__law_over : Fd := ⟨"_law_over", ["one", "other"], [false, false],
 .cons (.ret (.call 12 (.cons (.bin .Mult (.ix (.var 0) (.int 0)) (.ix (.var 1) (.int 1))) (.cons (.bin .Mult (.ix (.var 0) (.int 1)) (.ix (.var 1) (.int 0))) .nil)))) .nil⟩
abbrev i__law_over : Nat := 16
def f__law_small : Fd := ⟨"_law_small", ["state"], [true],
 .cons (.ret (.call 12 (.cons (.bin .Sub (.call 10 (.cons (.var 0) (.cons (.int 19) .nil))) (.int 9)) (.cons (.bin .Add (.int 1) (.ix (.lst (.cons (.int 0) (.cons (.int 0) (.cons (.call 10 (.cons (.var 0) (.cons (.int 6) .nil))) .nil)))) (.call 10 (.cons (.var 0) (.cons (.int 3) .nil))))) .nil)))) .nil⟩
abbrev i__law_small : Nat := 17
def f__law_above : Fd := ⟨"_law_above", ["state"], [true],
 .cons (.ret (.call 12 (.cons (.bin .Add (.int 1) (.call 10 (.cons (.var 0) (.cons (.int 12) .nil)))) (.cons (.bin .Add (.int 1) (.ix (.lst (.cons (.int 0) (.cons (.int 0) (.cons (.call 10 (.cons (.var 0) (.cons (.int 6) .nil))) .nil)))) (.call 10 (.cons (.var 0) (.cons (.int 3) .nil))))) .nil)))) .nil⟩
abbrev i__law_above : Nat := 18
def f__law_two_joints : Fd := ⟨"_law_two_joints", ["state", "many", "one"], [true, false],
 .cons (.asg (.name 2) (.call 10 (.cons (.var 0) (.cons (.var 1) .nil))))
 (.cons (.ret (.tup (.cons (.var 2) (.cons (.bin .Mod (.bin .Add (.bin .Add (.var 2) (.int 1)) (.call 10 (.cons (.var 0) (.cons (.bin .Sub (.var 1) (.int 1)) .nil)))) (.var 1)) .nil)))) .nil)⟩
abbrev i__law_two_joints : Nat := 19
abbrev c1__law_next_step : Hg.Ex := .lc (.rng (.cons (.int 2) .nil)) (.name 9) (.bl true) (.call 15 (.cons (.call 18 (.cons (.var 0) .nil)) (.cons (.tup (.cons (.bin .Add (.int 1) (.call 10 (.cons (.var 0) (.cons (.int 9) .nil)))) (.cons (.int 1) .nil))) .nil))) [9]
abbrev c0__law_next_step : Hg.Ex := .lc (.rng (.cons (.var 2) .nil)) (.name 4) (.cmp .Eq (.ix (.ix (.var 1) (.var 4)) (.int 0)) (.str "fix")) (.var 4) [4]
def f__law_next_step : Fd := ⟨"_law_next_step", ["state", "machine", "many", "fixes", "number", "way", "other", "one", "squares", "turn"], [true, false],
 .cons (.asg (.name 2) (.bf .len (.cons (.var 1) .nil)))
 (.cons (.asg (.name 3) (c0__law_next_step))
 (.cons (.asg (.name 5) (.call 10 (.cons (.var 0) (.cons (.int 8) .nil))))
 (.cons (.ite (.or (.cons (.cmp .Eq (.var 2) (.int 0)) (.cons (.cmp .Eq (.var 5) (.int 0)) (.cons (.and (.cons (.cmp .Lt (.var 2) (.int 2)) (.cons (.cmp .Lt (.var 5) (.int 4)) .nil))) .nil)))) (.cons (.ret (.tup (.cons (.str "fix") (.cons (.call 17 (.cons (.var 0) .nil)) (.cons (.call 17 (.cons (.var 0) .nil)) .nil))))) .nil) (.nil))
 (.cons (.ite (.or (.cons (.cmp .Lt (.var 2) (.int 2)) (.cons (.cmp .Lt (.var 5) (.int 3)) .nil))) (.cons (.ret (.tup (.cons (.str "crank") (.cons (.ix (.var 3) (.call 10 (.cons (.var 0) (.cons (.bf .len (.cons (.var 3) .nil)) .nil)))) (.cons (.call 18 (.cons (.var 0) .nil)) .nil))))) .nil) (.nil))
 (.cons (.asg (.tup (.cons (.name 7) (.cons (.name 6) .nil))) (.call 19 (.cons (.var 0) (.cons (.var 2) .nil))))
 (.cons (.ite (.cmp .Lt (.var 5) (.int 6)) (.cons (.asg (.name 8) (c1__law_next_step))
 (.cons (.ret (.tup (.cons (.str "pair") (.cons (.var 7) (.cons (.var 6) (.cons (.ix (.var 8) (.int 0)) (.cons (.ix (.var 8) (.int 1)) (.cons (.call 10 (.cons (.var 0) (.cons (.int 2) .nil))) .nil)))))))) .nil)) (.nil))
 (.cons (.ret (.tup (.cons (.str "like") (.cons (.var 7) (.cons (.var 6) (.cons (.call 17 (.cons (.var 0) .nil)) (.cons (.call 17 (.cons (.var 0) .nil)) .nil))))))) .nil)))))))⟩
abbrev i__law_next_step : Nat := 20
abbrev b1__law_machine : Hg.Sts := .cons (.asg (.name 1) (.bin .Add (.var 1) (.tup (.cons (.call 20 (.cons (.var 0) (.cons (.var 1) .nil))) .nil)))) .nil
abbrev l0__law_machine : Hg.St := .fo (.rng (.cons (.bin .Add (.int 1) (.call 10 (.cons (.var 0) (.cons (.int 7) .nil)))) .nil)) (.name 2) (b1__law_machine)
def f__law_machine : Fd := ⟨"_law_machine", ["state", "machine", "turn"], [true],
 .cons (.asg (.name 1) (.tup (.nil)))
 (.cons (l0__law_machine)
 (.cons (.ret (.var 1)) .nil))⟩
abbrev i__law_machine : Nat := 21
abbrev b1__law_drives : Hg.Sts := .cons (.ite (.cmp .Eq (.ix (.var 3) (.int 0)) (.str "crank")) (.cons (.exp (.app 2 (.ix (.lst (.cons (.non) (.cons (.call 17 (.cons (.var 0) .nil)) (.cons (.call 17 (.cons (.var 0) .nil)) (.cons (.call 17 (.cons (.var 0) .nil)) .nil))))) (.call 10 (.cons (.var 0) (.cons (.int 4) .nil)))))) .nil) (.nil)) .nil
abbrev l0__law_drives : Hg.St := .fo (.seq (.var 1)) (.name 3) (b1__law_drives)
def f__law_drives : Fd := ⟨"_law_drives", ["state", "machine", "found", "step"], [true, false],
 .cons (.asg (.name 2) (.lst (.nil)))
 (.cons (l0__law_drives)
 (.cons (.ret (.bf .tuple (.cons (.var 2) .nil))) .nil))⟩
abbrev i__law_drives : Nat := 22
def f__law_bent_step : Fd := ⟨"_law_bent_step", ["state", "step", "many", "at", "odd", "some"], [true, false, false],
 .cons (.asg (.name 3) (.call 10 (.cons (.var 0) (.cons (.bf .len (.cons (.var 1) .nil)) .nil))))
 (.cons (.asg (.name 4) (.lst (.cons (.var 2) (.cons (.bin .Add (.var 2) (.int 1)) (.cons (.neg (.int 1)) (.cons (.int 0) (.cons (.int 1) (.cons (.int 2) (.cons (.bl true) (.cons (.bl false) (.cons (.non) (.cons (.str "fix") (.cons (.str "like") (.cons (.tup (.cons (.int 0) (.cons (.int 1) .nil))) (.cons (.tup (.cons (.neg (.int 1)) (.cons (.int 2) .nil))) (.cons (.tup (.cons (.int 2) (.cons (.int 4) .nil))) (.cons (.tup (.cons (.int 1) (.cons (.int 0) .nil))) (.cons (.lst (.cons (.int 1) (.cons (.int 2) .nil))) .nil))))))))))))))))))
 (.cons (.asg (.name 4) (.bin .Add (.var 4) (.lst (.cons (.tup (.cons (.bl true) (.cons (.int 1) .nil))) (.cons (.str "pair") (.cons (.tup (.cons (.int 3) (.cons (.int 1) .nil))) (.cons (.tup (.cons (.int 1) (.cons (.int 2) (.cons (.int 3) .nil)))) (.cons (.str "Fix") (.cons (.tup (.nil)) .nil)))))))))
 (.cons (.asg (.name 5) (.lst (.cons (.bf .list (.cons (.var 1) .nil)) (.cons (.bin .Add (.var 1) (.tup (.cons (.int 0) .nil))) (.cons (.sl (.var 1) (.non) (.neg (.int 1))) (.cons (.sl (.var 1) (.int 1) (.non)) (.cons (.non) (.cons (.dic (.nil) (.nil)) (.cons (.tup (.nil)) (.cons (.ix (.var 1) (.int 0)) (.cons (.tup (.cons (.str "crank") (.cons (.bin .Sub (.var 2) (.int 1)) (.cons (.tup (.cons (.int 1) (.cons (.int 1) .nil))) .nil)))) .nil)))))))))))
 (.cons (.ite (.cmp .Eq (.call 10 (.cons (.var 0) (.cons (.int 4) .nil))) (.int 0)) (.cons (.ret (.ix (.var 5) (.call 10 (.cons (.var 0) (.cons (.int 9) .nil))))) .nil) (.nil))
 (.cons (.ret (.bin .Add (.bin .Add (.sl (.var 1) (.non) (.var 3)) (.tup (.cons (.ix (.var 4) (.call 10 (.cons (.var 0) (.cons (.int 22) .nil)))) .nil))) (.sl (.var 1) (.bin .Add (.var 3) (.int 1)) (.non)))) .nil)))))⟩
abbrev i__law_bent_step : Nat := 23
def f__law_bent : Fd := ⟨"_law_bent", ["state", "machine", "at", "way"], [true, false],
 .cons (.asg (.name 2) (.call 10 (.cons (.var 0) (.cons (.bf .len (.cons (.var 1) .nil)) .nil))))
 (.cons (.asg (.name 3) (.call 10 (.cons (.var 0) (.cons (.int 12) .nil))))
 (.cons (.ite (.cmp .Eq (.var 3) (.int 0)) (.cons (.ret (.ix (.lst (.cons (.bf .list (.cons (.var 1) .nil)) (.cons (.tup (.nil)) (.cons (.non) (.cons (.int 7) (.cons (.bl true) (.cons (.str "fix") (.cons (.dic (.nil) (.nil)) (.cons (.tup (.cons (.var 1) .nil)) (.cons (.ix (.var 1) (.var 2)) .nil)))))))))) (.call 10 (.cons (.var 0) (.cons (.int 9) .nil))))) .nil) (.nil))
 (.cons (.ite (.cmp .Eq (.var 3) (.int 1)) (.cons (.ret (.sl (.bin .Mult (.var 1) (.int 8)) (.non) (.bin .Add (.int 7) (.call 10 (.cons (.var 0) (.cons (.int 2) .nil)))))) .nil) (.nil))
 (.cons (.ite (.cmp .Eq (.var 3) (.int 2)) (.cons (.ret (.bin .Add (.sl (.var 1) (.int 1) (.non)) (.sl (.var 1) (.non) (.int 1)))) .nil) (.nil))
 (.cons (.ret (.bin .Add (.bin .Add (.sl (.var 1) (.non) (.var 2)) (.tup (.cons (.call 23 (.cons (.var 0) (.cons (.ix (.var 1) (.var 2)) (.cons (.var 2) .nil)))) .nil))) (.sl (.var 1) (.bin .Add (.var 2) (.int 1)) (.non)))) .nil)))))⟩
abbrev i__law_bent : Nat := 24
abbrev b1__law_is_fraction : Hg.Sts := .cons (.ite (.or (.cons (.not (.isi (.var 1) [.int])) (.cons (.isi (.var 1) [.bool]) .nil))) (.cons (.ret (.bl false)) .nil) (.nil)) .nil
abbrev l0__law_is_fraction : Hg.St := .fo (.seq (.var 0)) (.name 1) (b1__law_is_fraction)
def f__law_is_fraction : Fd := ⟨"_law_is_fraction", ["thing", "number"], [false],
 .cons (.ite (.or (.cons (.not (.isi (.var 0) [.tuple])) (.cons (.cmp .NotEq (.bf .len (.cons (.var 0) .nil)) (.int 2)) .nil))) (.cons (.ret (.bl false)) .nil) (.nil))
 (.cons (l0__law_is_fraction)
 (.cons (.ret (.and (.cons (.cmp .Gt (.ix (.var 0) (.int 1)) (.int 0)) (.cons (.cmp .Eq (.call 11 (.cons (.ix (.var 0) (.int 0)) (.cons (.ix (.var 0) (.int 1)) .nil))) (.int 1)) .nil)))) .nil))⟩
abbrev i__law_is_fraction : Nat := 25
abbrev b1__law_joints : Hg.Sts := .cons (.ite (.or (.cons (.not (.isi (.var 2) [.int])) (.cons (.isi (.var 2) [.bool]) (.cons (.not (.chain .LtE .Lt (.int 0) (.var 2) (.var 1))) .nil)))) (.cons (.ret (.bl false)) .nil) (.nil)) .nil
abbrev l0__law_joints : Hg.St := .fo (.seq (.var 0)) (.name 2) (b1__law_joints)
def f__law_joints : Fd := ⟨"_law_joints", ["some", "many", "one"], [false, false],
 .cons (l0__law_joints)
 (.cons (.ret (.cmp .Eq (.lset (.var 0)) (.bf .len (.cons (.var 0) .nil)))) .nil)⟩
abbrev i__law_joints : Nat := 26
def f__law_step_due : Fd := ⟨"_law_step_due", ["step", "ahead"], [false, false],
 .cons (.ite (.or (.cons (.not (.isi (.var 0) [.tuple])) (.cons (.cmp .Eq (.var 0) (.tup (.nil))) (.cons (.not (.isi (.ix (.var 0) (.int 0)) [.str])) .nil)))) (.cons (.ret (.bl false)) .nil) (.nil))
 (.cons (.ite (.cmp .Eq (.ix (.var 0) (.int 0)) (.str "fix")) (.cons (.ret (.and (.cons (.cmp .Eq (.bf .len (.cons (.var 0) .nil)) (.int 3)) (.cons (.call 25 (.cons (.ix (.var 0) (.int 1)) .nil)) (.cons (.call 25 (.cons (.ix (.var 0) (.int 2)) .nil)) .nil))))) .nil) (.nil))
 (.cons (.ite (.cmp .Eq (.ix (.var 0) (.int 0)) (.str "crank")) (.cons (.ite (.or (.cons (.cmp .NotEq (.bf .len (.cons (.var 0) .nil)) (.int 3)) (.cons (.not (.call 26 (.cons (.sl (.var 0) (.int 1) (.int 2)) (.cons (.bf .len (.cons (.var 1) .nil)) .nil)))) (.cons (.cmp .NotEq (.ix (.ix (.var 1) (.ix (.var 0) (.int 1))) (.int 0)) (.str "fix")) .nil)))) (.cons (.ret (.bl false)) .nil) (.nil))
 (.cons (.ret (.and (.cons (.call 25 (.cons (.ix (.var 0) (.int 2)) .nil)) (.cons (.cmp .Gt (.ix (.ix (.var 0) (.int 2)) (.int 0)) (.int 0)) .nil)))) .nil)) (.nil))
 (.cons (.ite (.or (.cons (.cmp .NotIn (.ix (.var 0) (.int 0)) (.tup (.cons (.str "pair") (.cons (.str "like") .nil)))) (.cons (.cmp .NotEq (.bf .len (.cons (.var 0) .nil)) (.bin .Add (.int 5) (.bf .int (.cons (.cmp .Eq (.ix (.var 0) (.int 0)) (.str "pair")) .nil)))) .nil))) (.cons (.ret (.bl false)) .nil) (.nil))
 (.cons (.ite (.or (.cons (.not (.call 26 (.cons (.sl (.var 0) (.int 1) (.int 3)) (.cons (.bf .len (.cons (.var 1) .nil)) .nil)))) (.cons (.not (.call 25 (.cons (.ix (.var 0) (.int 3)) .nil))) (.cons (.not (.call 25 (.cons (.ix (.var 0) (.int 4)) .nil))) .nil)))) (.cons (.ret (.bl false)) .nil) (.nil))
 (.cons (.ite (.cmp .Eq (.ix (.var 0) (.int 0)) (.str "like")) (.cons (.ret (.bl true)) .nil) (.nil))
 (.cons (.ite (.or (.cons (.not (.isi (.ix (.var 0) (.int 5)) [.int])) (.cons (.isi (.ix (.var 0) (.int 5)) [.bool]) (.cons (.cmp .NotIn (.ix (.var 0) (.int 5)) (.tup (.cons (.int 0) (.cons (.int 1) .nil)))) .nil)))) (.cons (.ret (.bl false)) .nil) (.nil))
 (.cons (.ret (.and (.cons (.cmp .Gt (.ix (.ix (.var 0) (.int 3)) (.int 0)) (.int 0)) (.cons (.cmp .Gt (.ix (.ix (.var 0) (.int 4)) (.int 0)) (.int 0)) .nil)))) .nil)))))))⟩
abbrev i__law_step_due : Nat := 27
abbrev b1__law_due : Hg.Sts := .cons (.ite (.not (.call 27 (.cons (.ix (.var 0) (.var 1)) (.cons (.sl (.var 0) (.non) (.var 1)) .nil)))) (.cons (.ret (.bl false)) .nil) (.nil)) .nil
abbrev l0__law_due : Hg.St := .fo (.rng (.cons (.bf .len (.cons (.var 0) .nil)) .nil)) (.name 1) (b1__law_due)
def f__law_due : Fd := ⟨"_law_due", ["thing", "number"], [false],
 .cons (.ite (.or (.cons (.not (.isi (.var 0) [.tuple])) (.cons (.not (.chain .LtE .LtE (.int 1) (.bf .len (.cons (.var 0) .nil)) (.int 7))) .nil))) (.cons (.ret (.bl false)) .nil) (.nil))
 (.cons (l0__law_due)
 (.cons (.ret (.bl true)) .nil))⟩
abbrev i__law_due : Nat := 28
abbrev b3_law : Hg.Sts := .cons (.asg (.name 5) (.call 24 (.cons (.var 2) (.cons (.var 3) .nil))))
 (.cons (.asg (.name 6) (.call 7 (.cons (.var 5) .nil)))
 (.cons (.ite (.or (.cons (.not (.isi (.var 6) [.bool])) (.cons (.cmp .NotEq (.var 6) (.call 28 (.cons (.var 5) .nil))) .nil))) (.cons (.ret (.bl false)) .nil) (.nil)) .nil))
abbrev l2_law : Hg.St := .fo (.rng (.cons (.int 6) .nil)) (.name 4) (b3_law)
abbrev b1_law : Hg.Sts := .cons (.asg (.name 2) (.call 9 (.cons (.var 0) (.cons (.var 1) .nil))))
 (.cons (.asg (.name 3) (.call 21 (.cons (.var 2) .nil)))
 (.cons (.ite (.cmp .IsNot (.call 7 (.cons (.var 3) .nil)) (.bl true)) (.cons (.ret (.bl false)) .nil) (.nil))
 (.cons (l2_law) .nil)))
abbrev l0_law : Hg.St := .fo (.rng (.cons (.bf .max (.cons (.int 1) (.cons (.bf .min (.cons (.bf .len (.cons (.var 0) .nil)) (.cons (.int 5) .nil))) .nil))) .nil)) (.name 1) (b1_law)
def f_law : Fd := ⟨"law", ["script", "k", "state", "machine", "turn", "thing", "found"], [false],
 .cons (l0_law)
 (.cons (.ret (.bl true)) .nil)⟩
abbrev i_law : Nat := 29
def top (i : Nat) : Stmt := PySem.Challenge.pw_hingedraw_k41_machines_known.main.body.getD i (.Pass ⟨0, 0, 0, 0⟩)
def ds : List Tp := [⟨f_is_whole, top 1, "is_whole", "is_whole"⟩, ⟨f_is_fraction, top 2, "is_fraction", "is_fraction"⟩, ⟨f_divisor_of, top 3, "divisor_of", "divisor_of"⟩, ⟨f_is_joint, top 7, "is_joint", "is_joint"⟩, ⟨f_is_above, top 8, "is_above", "is_above"⟩, ⟨f_are_joints, top 9, "are_joints", "are_joints"⟩, ⟨f_is_step, top 10, "is_step", "is_step"⟩, ⟨f_is_machine, top 11, "is_machine", "is_machine"⟩, ⟨f__law_cell_at, top 13, "_law_cell_at", "_law_cell_at"⟩, ⟨f__law_state, top 14, "_law_state", "_law_state"⟩, ⟨f__law_take, top 15, "_law_take", "_law_take"⟩, ⟨f__law_divisor, top 16, "_law_divisor", "_law_divisor"⟩, ⟨f__law_ratio, top 17, "_law_ratio", "_law_ratio"⟩, ⟨f__law_plus, top 18, "_law_plus", "_law_plus"⟩, ⟨f__law_minus, top 19, "_law_minus", "_law_minus"⟩, ⟨f__law_times, top 20, "_law_times", "_law_times"⟩, ⟨f__law_over, top 21, "_law_over", "_law_over"⟩, ⟨f__law_small, top 22, "_law_small", "_law_small"⟩, ⟨f__law_above, top 23, "_law_above", "_law_above"⟩, ⟨f__law_two_joints, top 24, "_law_two_joints", "_law_two_joints"⟩, ⟨f__law_next_step, top 25, "_law_next_step", "_law_next_step"⟩, ⟨f__law_machine, top 26, "_law_machine", "_law_machine"⟩, ⟨f__law_drives, top 27, "_law_drives", "_law_drives"⟩, ⟨f__law_bent_step, top 28, "_law_bent_step", "_law_bent_step"⟩, ⟨f__law_bent, top 29, "_law_bent", "_law_bent"⟩, ⟨f__law_is_fraction, top 30, "_law_is_fraction", "_law_is_fraction"⟩, ⟨f__law_joints, top 31, "_law_joints", "_law_joints"⟩, ⟨f__law_step_due, top 32, "_law_step_due", "_law_step_due"⟩, ⟨f__law_due, top 33, "_law_due", "_law_due"⟩, ⟨f_law, top 34, "law", "law"⟩]
def con : List (Str × D) := [("MOST_STEPS", .int 7)]
def g : Pg := ⟨ds, con, ["abs", "bool", "enumerate", "int", "isinstance", "len", "list", "max", "min", "range", "set", "str", "tuple"], [], [], [("LENGTHS", [("fix", 3), ("crank", 3), ("pair", 6), ("like", 5)])]⟩
theorem chk : g.chk = true := by kernel_rfl
end Lw
set_option Elab.async false
set_option linter.all false
set_option maxRecDepth 100000
set_option maxHeartbeats 0
/-! The head's run. -/
namespace Lw
open PySem PySem.Spec PyProof.Rows Hg L2
abbrev R : PySem.W.OpenRow := PySem.W.OpenLaw.row PySem.Challenge.rw_hingedraw_k41_machines_known
abbrev hk : PySem.W.Hook := g.hookR
abbrev ob (s : PySem.W.SharedT) : AlC := g.obR s
theorem ob_eq (s : PySem.W.SharedT) : ob s = hk.obs s.abs := g.obR_eq s
def loose0 : List PySem.Str := ["is_whole", "is_fraction", "divisor_of", "MOST_STEPS", "LENGTHS", "is_joint", "is_above", "are_joints", "is_step", "is_machine", "_law_cell_at", "_law_state", "_law_take", "_law_divisor", "_law_ratio", "_law_plus", "_law_minus", "_law_times", "_law_over", "_law_small", "_law_above", "_law_two_joints", "_law_next_step", "_law_machine", "_law_drives", "_law_bent_step", "_law_bent", "_law_is_fraction", "_law_joints", "_law_step_due"]
def loose1 : List PySem.Str := ["_law_due"]
def loose : List PySem.Str := loose0 ++ loose1
abbrev qv : Program := PySem.W.view R.prog [34]
abbrev wf (w : World) : World := w.withFollow "special-get-raises" false
abbrev wt (w : World) : World := w.withFollow "special-get-raises" true
open PySem.W HandSHeadRun in
theorem f1 (w : World) (os : OsState) : (endF (stepQ (denQ tabQ) R.prog (wf w)) 20000 R.prog (wf w) os).map (fun s => (looksF R.prog (boot_heap (wf w).params) s.abs, seenQ qv loose (importedModules R.prog.main.body) (fun s => xlAt qv [] s && recOk R.toRowW.records s) s.abs)) = some (true, openGood qv loose) := by kernel_rfl
open PySem.W HandSHeadRun in
theorem f2 (w : World) (os : OsState) : (endF (stepQ (denQ tabQ) R.prog (wf w)) 20000 R.prog (wf w) os).map (fun s => He.obsD g.fa g.fn (kR s)) = some (He.valD g.fn) := by kernel_rfl
open PySem.W HandSHeadRun in
theorem f3 (w : World) (os : OsState) : (endF (stepQ (denQ tabQ) R.prog (wf w)) 20000 R.prog (wf w) os).map (fun s => (g.tbs.map fun t => He.dicW (kR s) (He.ga (kR s) t.1), moreOf g (kR s) && emptyB (getT s) (kR s))) = some (g.tbs.map fun t => some (He.keysIn (wf w).params (t.2.map (·.1))), true) := by kernel_rfl
open PySem.W HandSHeadRun in
theorem t1 (w : World) (os : OsState) : (endF (stepQ (denQ tabQ) R.prog (wt w)) 20000 R.prog (wt w) os).map (fun s => (looksF R.prog (boot_heap (wt w).params) s.abs, seenQ qv loose (importedModules R.prog.main.body) (fun s => xlAt qv [] s && recOk R.toRowW.records s) s.abs)) = some (true, openGood qv loose) := by kernel_rfl
open PySem.W HandSHeadRun in
theorem t2 (w : World) (os : OsState) : (endF (stepQ (denQ tabQ) R.prog (wt w)) 20000 R.prog (wt w) os).map (fun s => He.obsD g.fa g.fn (kR s)) = some (He.valD g.fn) := by kernel_rfl
open PySem.W HandSHeadRun in
theorem t3 (w : World) (os : OsState) : (endF (stepQ (denQ tabQ) R.prog (wt w)) 20000 R.prog (wt w) os).map (fun s => (g.tbs.map fun t => He.dicW (kR s) (He.ga (kR s) t.1), moreOf g (kR s) && emptyB (getT s) (kR s))) = some (g.tbs.map fun t => some (He.keysIn (wt w).params (t.2.map (·.1))), true) := by kernel_rfl
theorem run_f (w : World) : HandSHeadRun.RunEq R qv hk ob 20000 loose (wf w) := run_parts (f1 w) (f2 w) (f3 w)
theorem run_t (w : World) : HandSHeadRun.RunEq R qv hk ob 20000 loose (wt w) := run_parts (t1 w) (t2 w) (t3 w)
theorem run (w : World) : HandSHeadRun.RunEq R qv hk ob 20000 loose w := PySem.W.byRow2 "special-get-raises" run_f run_t w
end Lw
set_option Elab.async false
set_option linter.all false
set_option maxRecDepth 100000
set_option maxHeartbeats 400000
/-! Runs of terms: rules for reckoning. -/
namespace Hg
open PySem
theorem whN_more {c : M Bool} {b : M Fl} : ∀ (n : Nat) (s : S), ¬ (whN c b n s).isBad → ∀ m, n ≤ m → whN c b m s = whN c b n s
  | 0, s, h, m, _ => (h trivial).elim
  | n + 1, s, h, 0, hm => by omega
  | n + 1, s, h, m + 1, hm => by
    have e : ∀ k, whN c b (k + 1) s = (c s).bind fun q s1 => (if q then b.bind fun f => (match f with
      | .nx => whN c b k
      | .rt r => M.pure (.rt r)) else M.pure .nx) s1 := fun k => rfl
    rw [e] at h
    rw [e, e]
    cases hc : c s with
    | bad => rfl
    | err u t => rfl
    | ok q s1 =>
      rw [hc] at h
      cases q with
      | false => rfl
      | true =>
        have h : ¬ ((b s1).bind fun f s2 => (match f with
          | .nx => whN c b n
          | .rt r => M.pure (.rt r)) s2).isBad := h
        show ((b s1).bind fun f s2 => (match f with
          | .nx => whN c b m
          | .rt r => M.pure (.rt r)) s2) = (b s1).bind fun f s2 => (match f with
          | .nx => whN c b n
          | .rt r => M.pure (.rt r)) s2
        cases hb : b s1 with
        | bad => rfl
        | err u t => rfl
        | ok f s2 =>
          rw [hb] at h
          cases f with
          | rt r => rfl
          | nx => exact whN_more n s2 h m (by omega)
theorem whM_of {c : M Bool} {b : M Fl} {n : Nat} {s : S} (h : ¬ (whN c b n s).isBad) : whM c b s = whN c b n s := by
  unfold whM
  have ex : ∃ n, ¬ (whN c b n s).isBad := ⟨n, h⟩
  rw [dif_pos ex]
  have h2 := Classical.choose_spec ex
  generalize Classical.choose ex = m at h2
  rcases Nat.le_total n m with q | q
  · exact whN_more n s h m q
  · exact (whN_more m s h2 n q).symm
theorem whM_no {c : M Bool} {b : M Fl} {s : S} (h : ∀ n, (whN c b n s).isBad) : whM c b s = .bad := by
  unfold whM
  rw [dif_neg fun ⟨n, q⟩ => q (h n)]
theorem isBad_eq {α : Type} {r : R α} (h : r.isBad) : r = .bad := by
  cases r with
  | bad => rfl
  | ok a s => exact h.elim
  | err e s => exact h.elim
/-- one turn -/
theorem whM_step (c : M Bool) (b : M Fl) (s : S) : whM c b s = (c s).bind fun q s1 => if q then (b s1).bind fun f s2 => (match f with
      | .nx => whM c b s2
      | .rt r => .ok (.rt r) s2) else .ok .nx s1 := by
  have e : ∀ k, whN c b (k + 1) s = (c s).bind fun q s1 => (if q then b.bind fun f => (match f with
      | .nx => whN c b k
      | .rt r => M.pure (.rt r)) else M.pure .nx) s1 := fun k => rfl
  have fin : ∀ {r : R Fl} (n : Nat), whN c b n s = r → ¬ r.isBad → whM c b s = r := fun n h1 h2 => by
    rw [whM_of (n := n) (by rw [h1]; exact h2), h1]
  cases hc : c s with
  | bad =>
    exact whM_no fun n => by
      cases n with
      | zero => trivial
      | succ n => rw [e, hc]; trivial
  | err u t => exact fin 1 (by rw [e, hc] <;> rfl) id
  | ok q s1 =>
    cases q with
    | false => exact fin 1 (by rw [e, hc] <;> rfl) id
    | true =>
      show _ = (b s1).bind fun f s2 => (match f with
        | .nx => whM c b s2
        | .rt r => .ok (.rt r) s2)
      have e2 : ∀ k, whN c b (k + 1) s = (b s1).bind fun f s2 => (match f with
          | .nx => whN c b k
          | .rt r => M.pure (.rt r)) s2 := fun k => by rw [e, hc] <;> rfl
      cases hb : b s1 with
      | bad =>
    exact whM_no fun n => by
          cases n with
          | zero => trivial
          | succ n => rw [e2, hb]; trivial
      | err u t => exact fin 1 (by rw [e2, hb] <;> rfl) id
      | ok f s2 =>
        cases f with
        | rt r => exact fin 1 (by rw [e2, hb] <;> rfl) id
        | nx =>
          show _ = whM c b s2
          by_cases ex : ∃ n, ¬ (whN c b n s2).isBad
          · obtain ⟨n, h⟩ := ex
            rw [whM_of h]
            exact fin (n + 1) (by rw [e2, hb] <;> rfl) h
          · have h2 : ∀ n, (whN c b n s2).isBad := fun n => Classical.byContradiction fun z => ex ⟨n, z⟩
            rw [whM_no h2]
            exact whM_no fun n => by
              cases n with
              | zero => trivial
              | succ n =>
                rw [e2, hb]
                exact h2 n
theorem whM_t {c : M Bool} {b : M Fl} {s s1 s2 : S} (hc : c s = .ok true s1) (hb : b s1 = .ok .nx s2) : whM c b s = whM c b s2 := by
  rw [whM_step, hc]
  show ((b s1).bind fun f s2 => (match f with
      | .nx => whM c b s2
      | .rt r => .ok (.rt r) s2)) = _
  rw [hb]
  rfl
theorem whM_f {c : M Bool} {b : M Fl} {s s1 : S} (hc : c s = .ok false s1) : whM c b s = .ok .nx s1 := by
  rw [whM_step, hc]
  rfl
theorem whM_r {c : M Bool} {b : M Fl} {s s1 s2 : S} {r : Sl} (hc : c s = .ok true s1) (hb : b s1 = .ok (.rt r) s2) : whM c b s = .ok (.rt r) s2 := by
  rw [whM_step, hc]
  show ((b s1).bind fun f s2 => (match f with
      | .nx => whM c b s2
      | .rt r => .ok (.rt r) s2)) = _
  rw [hb]
  rfl
end Hg
set_option Elab.async false
set_option linter.all false
set_option maxRecDepth 100000
set_option maxHeartbeats 400000
/-! The evaluator's rows, one by one. -/
namespace Hg
open PySem
section
variable {C : Cal} {P : List Nat} {α β γ : Type}
theorem q_var {i : Nat} : evE C (.var i) = varM i := rfl
theorem q_int {i : Int} : evE C (.int i) = M.pure (.sh (.int i)) := rfl
theorem q_str {x : Str} : evE C (.str x) = M.pure (.sh (.str x)) := rfl
theorem q_bl {b : Bool} : evE C (.bl b) = M.pure (.sh (.bool b)) := rfl
theorem q_non : evE C .non = M.pure (.sh .none) := rfl
theorem q_glo {x : Str} : evE C (.glo x) = lift ((C.con x).map .sh) := rfl
theorem q_bin {op : Operator} {a b : Ex} : evE C (.bin op a b) = (opnd a (evE C a)).bind fun x => (opnd b (evE C b)).bind fun y => (resO x).bind fun d => (resO y).bind fun e => lift (binD op d e) := rfl
theorem q_neg {a : Ex} : evE C (.neg a) = (frz (evE C a)).bind fun d => match d with
    | .int i => M.pure (.sh (.int (-i)))
    | _ => bad := rfl
theorem q_cmp {op : CmpOp} {a b : Ex} : evE C (.cmp op a b) = (opnd a (evE C a)).bind fun x => (opnd b (evE C b)).bind fun y => (resO x).bind fun d => (resO y).bind fun e => lift ((cmpD op d e).map fun k => .sh (.bool k)) := rfl
theorem q_chain {o p : CmpOp} {a b c : Ex} : evE C (.chain o p a b c) = (frz (evE C a)).bind fun x => (frz (evE C b)).bind fun y => (lift (cmpD o x y)).bind fun k => if k then (frz (evE C c)).bind fun z => lift ((cmpD p y z).map fun k => .sh (.bool k)) else bM false := rfl
theorem q_and {es : Exs} : evE C (.and es) = (evAnd C es).bind bM := rfl
theorem q_or {es : Exs} : evE C (.or es) = (evOr C es).bind bM := rfl
theorem q_not {a : Ex} : evE C (.not a) = (testM (evE C a)).bind fun k => bM (!k) := rfl
theorem q_ife {c a b : Ex} : evE C (.ife c a b) = (testM (evE C c)).bind fun k => if k then evE C a else evE C b := rfl
theorem q_ix {a i : Ex} : evE C (.ix a i) = (opnd a (evE C a)).bind fun x => (frz (evE C i)).bind fun e => (resO x).bind fun d => lift ((ixD d e).map .sh) := rfl
theorem q_dget {a i f : Ex} : evE C (.dget a i f) = (opnd a (evE C a)).bind fun x => (resO x).bind fun d0 => (lift (dctD d0)).bind fun _ => (frz (evE C i)).bind fun e => (frz (evE C f)).bind fun g => (resO x).bind fun d => lift ((dgetD d e g).map .sh) := rfl
theorem q_dtk {es : Exs} : evE C (.dtk es) = noErr ((evDs C es).bind fun ds => lift (dtkD ds)) := rfl
theorem q_valsS {a : Ex} : evSrc C (.vals a) = (frz (evE C a)).bind fun x => lift (valsD x) := rfl
theorem q_lset {a : Ex} : evE C (.lset a) = (frz (evE C a)).bind fun d => lift (lsetD d) := rfl
theorem q_cget {g : Str} {tab : List (Str × Int)} {e : Ex} : evE C (.cget g tab e) = (frz (evE C e)).bind fun d => lift (cgetD tab d) := rfl
theorem q_dix {a i : Ex} : evE C (.dix a i) = (opnd a (evE C a)).bind fun x => (frz (evE C i)).bind fun e => (resO x).bind fun d => lift ((dixD d e).map .sh) := rfl
theorem q_orv {a b : Ex} : evE C (.orv a b) = (frz (evE C a)).bind fun d => (lift (truD d)).bind fun k => if k then M.pure (.sh d) else evE C b := rfl
theorem q_dicm {ks vs : Exs} : evE C (.dic ks vs) = match keysE ks with
    | some l => noErr ((evDs C vs).bind fun ds => lift (dicD l ds))
    | none => bad := by rw [evE] <;> (cases keysE ks <;> rfl)
theorem ky0 : keysE .nil = some [] := rfl
theorem ky1 {x : Str} {es : Exs} : keysE (.cons (.str x) es) = (keysE es).map (x :: ·) := rfl
theorem ne_app {m : M α} {s : S} : noErr m s = match m s with
  | .ok a s' => .ok a s'
  | _ => .bad := rfl
theorem q_dic {ks vs : Exs} {l : List Str} (h : keysE ks = some l) : evE C (.dic ks vs) = noErr ((evDs C vs).bind fun ds => lift (dicD l ds)) := by rw [evE, h]
theorem ne_ok {a : α} {s : S} {m : M α} {s0 : S} (h : m s0 = .ok a s) : noErr m s0 = .ok a s := by
  unfold noErr
  rw [h]
theorem tr_non : truD .none = some false := rfl
theorem tr_int {i : Int} : truD (.int i) = some (i != 0) := rfl
theorem tr_lst {xs : List D} : truD (.list xs) = some (!xs.isEmpty) := rfl
theorem q_sl {a lo hi : Ex} : evE C (.sl a lo hi) = (opnd a (evE C a)).bind fun x => (partM lo (evE C lo)).bind fun l => (partM hi (evE C hi)).bind fun h => (resO x).bind fun d => lift (slD d l h) := rfl
theorem q_rev {a : Ex} : evE C (.rev a) = (frz (evE C a)).bind fun d => lift (rvD d) := rfl
theorem q_tup {es : Exs} : evE C (.tup es) = (evDs C es).bind fun ds => if ds.length ≤ sizeLine then M.pure (.sh (.tuple ds)) else bad := rfl
theorem q_lst {es : Exs} : evE C (.lst es) = (evDs C es).bind fun ds => if ds.length ≤ sizeLine then M.pure (.ow (.lst ds)) else bad := rfl
theorem q_call {f : Nat} {es : Exs} : evE C (.call f es) = if hasT (C.io f) then (if isTmp es then (evT C es).bind (tmpM C f) else (evAs C (C.io f) es).bind fun as => callM C f as) else (evOs C es).bind fun xs => callN C f xs := rfl
theorem n_callN {f : Nat} {xs : List Op} {s : S} : callN C f xs s = if xs.length = (C.io f).length then (match resOs xs s with
  | .ok ds _ => if anyV xs then (match C.run f (ds.map Sl.sh) with
    | .ok r [] => if scal r then .ok r s else callM C f (ds.map Ag.d) (letGo s xs)
    | _ => callM C f (ds.map Ag.d) (letGo s xs)) else callM C f (ds.map Ag.d) s
  | _ => .bad) else .bad := rfl
theorem n_evT {e : Ex} {es : Exs} : evT C (.cons e es) = evE C e := rfl
theorem n_tmp {f : Nat} {o : Ob} {s : S} : tmpM C f (.ow o) s = if (C.io f).length = 1 then (match C.run f [.ow o] with
    | .ok r [_] => .ok r s
    | .err e [_] => .err e s
    | _ => .bad) else .bad := rfl
theorem n_isTv {i : Nat} : isTmp (.cons (.var i) .nil) = false := rfl
theorem n_isT2 {e d : Ex} {r : Exs} : isTmp (.cons e (.cons d r)) = false := by cases e <;> rfl
theorem n_isTc {f : Nat} {es : Exs} : isTmp (.cons (.call f es) .nil) = true := rfl
theorem n_aV0 : anyV [] = false := rfl
theorem n_aVd {d : D} {r : List Op} : anyV (.d d :: r) = anyV r := rfl
theorem n_aVv {i : Nat} {r : List Op} : anyV (.v i :: r) = true := rfl
theorem n_hT0 : hasT [] = false := rfl
theorem n_hTt {r : List Bool} : hasT (true :: r) = true := rfl
theorem n_hTf {r : List Bool} : hasT (false :: r) = hasT r := rfl
theorem n_scB {b : Bool} : scal (.sh (.bool b)) = true := rfl
theorem n_scI {i : Int} : scal (.sh (.int i)) = true := rfl
theorem n_scN : scal (.sh .none) = true := rfl
theorem n_scT {ds : List D} : scal (.sh (.tuple ds)) = false := rfl
theorem n_scL {ds : List D} : scal (.sh (.list ds)) = false := rfl
theorem n_scO {o : Ob} : scal (.ow o) = false := rfl
theorem n_let0 {s : S} : letGo s [] = s := rfl
theorem n_letD {d : D} {r : List Op} {s : S} : letGo s (.d d :: r) = letGo s r := rfl
theorem n_letV {i : Nat} {r : List Op} {s : S} : letGo s (.v i :: r) = letGo (letG s i) r := rfl
theorem n_letG {i : Nat} {s : S} : letG s i = match s[i]? with
  | some (.ow o) => s.set i (.sh o.val)
  | _ => s := rfl
theorem q_bf {b : Bf} {es : Exs} : evE C (.bf b es) = (evOs C es).bind fun xs => (resOs xs).bind fun ds => lift (bfD b ds) := rfl
theorem q_isi {a : Ex} {ts : List Ty} : evE C (.isi a ts) = (opnd a (evE C a)).bind fun x => (resO x).bind fun d => M.pure (.sh (.bool (ts.any (isTy d)))) := rfl
theorem q_lc {src : Src} {tg : Tg} {c e : Ex} {own : List Nat} : evE C (.lc src tg c e own) = lcM own (fun d => (putT tg d).bind fun _ => (testM (evE C c)).bind fun k => if k then (frz (evE C e)).bind fun x => M.pure (some x) else M.pure none) (evSrc C src) := rfl
theorem q_lcl {i : Nat} {tg : Tg} {c e : Ex} {own : List Nat} : evE C (.lcl i tg c e own) = lcL own (fun d => (putT tg d).bind fun _ => (testM (evE C c)).bind fun k => if k then (frz (evE C e)).bind fun x => M.pure (some x) else M.pure none) i := rfl
theorem q_app {i : Nat} {e : Ex} : evE C (.app i e) = (ownL i).bind fun _ => (frz (evE C e)).bind fun d => (ownL i).bind fun xs => appM i d xs := rfl
theorem q_ext {i : Nat} {e : Ex} : evE C (.ext i e) = (ownL i).bind fun _ => (frz (evE C e)).bind fun d => (ownL i).bind fun xs => extM i d xs := rfl
theorem q_pop {i : Nat} {e : Ex} : evE C (.pop i e) = (ownL i).bind fun _ => (frz (evE C e)).bind fun d => (ownL i).bind fun xs => popM i d xs := rfl
theorem q_ins {i : Nat} {k e : Ex} : evE C (.ins i k e) = (ownL i).bind fun _ => (frz (evE C k)).bind fun q => (frz (evE C e)).bind fun d => (ownL i).bind fun xs => insM i q d xs := rfl
theorem q_an0 : evAnd C .nil = M.pure true := rfl
theorem q_an1 {e : Ex} {es : Exs} : evAnd C (.cons e es) = (testM (evE C e)).bind fun k => if k then evAnd C es else M.pure false := rfl
theorem q_or0 : evOr C .nil = M.pure false := rfl
theorem q_or1 {e : Ex} {es : Exs} : evOr C (.cons e es) = (testM (evE C e)).bind fun k => if k then M.pure true else evOr C es := rfl
theorem q_ds0 : evDs C .nil = M.pure [] := rfl
theorem q_ds1 {e : Ex} {es : Exs} : evDs C (.cons e es) = (frz (evE C e)).bind fun d => (evDs C es).bind fun ds => M.pure (d :: ds) := rfl
theorem q_os0 : evOs C .nil = M.pure [] := rfl
theorem q_os1 {e : Ex} {es : Exs} : evOs C (.cons e es) = (opnd e (evE C e)).bind fun d => (evOs C es).bind fun ds => M.pure (d :: ds) := rfl
theorem q_as0 : evAs C [] .nil = M.pure [] := rfl
theorem q_as1 {b : Bool} {bs : List Bool} {e : Ex} {es : Exs} : evAs C (b :: bs) (.cons e es) = (argM b e (evE C e)).bind fun d => (evAs C bs es).bind fun ds => M.pure (d :: ds) := rfl
theorem q_seq {e : Ex} : evSrc C (.seq e) = (frz (evE C e)).bind fun d => lift (seqD d) := rfl
theorem q_rng {es : Exs} : evSrc C (.rng es) = (evDs C es).bind fun ds => lift (rngD ds) := rfl
theorem q_zip {a b : Ex} : evSrc C (.zip a b) = (frz (evE C a)).bind fun x => (frz (evE C b)).bind fun y => lift (zipD x y) := rfl
theorem q_enu {a : Ex} : evSrc C (.enu a) = (frz (evE C a)).bind fun x => lift (enuD x) := rfl
theorem q_rvd {a : Ex} : evSrc C (.rvd a) = (frz (evE C a)).bind fun x => lift (revD x) := rfl
theorem q_asgN {i : Nat} {e : Ex} : evS C P (.asg (.name i) e) = (evE C e).bind fun r => nx (asgM P i r) := rfl
theorem q_asgT {ts : Tgs} {e : Ex} : evS C P (.asg (.tup ts) e) = if okTs P ts then (frz (evE C e)).bind fun d => nx (putT (.tup ts) d) else bad := rfl
theorem q_par {i j : Nat} {a b : Ex} : evS C P (.par i j a b) = if i ∈ P ∨ j ∈ P then bad else (frz (evE C a)).bind fun x => (frz (evE C b)).bind fun y => nx ((setS i (.sh x)).bind fun _ => setS j (.sh y)) := rfl
theorem q_par3 {i j l : Nat} {a b c : Ex} : evS C P (.par3 i j l a b c) = if i ∈ P ∨ j ∈ P ∨ l ∈ P then bad else (frz (evE C a)).bind fun x => (frz (evE C b)).bind fun y => (frz (evE C c)).bind fun z => nx ((setS i (.sh x)).bind fun _ => (setS j (.sh y)).bind fun _ => setS l (.sh z)) := rfl
theorem q_tr {b : Sts} {m : Nat} {hs : List (Nat × Hdl)} {s : S} : evS C P (.tr b m hs) s = trR P m hs (evSs C P b s) := rfl
theorem q_trN {m : Nat} {hs : List (Nat × Hdl)} {f : Fl} {s : S} : trR P m hs (.ok f s) = .ok f s := rfl
theorem q_six {i : Nat} {k e : Ex} : evS C P (.six i k e) = (frz (evE C e)).bind fun d => (ownO i).bind fun _ => (frz (evE C k)).bind fun q => nx (sixM i q d) := rfl
theorem q_exp {e : Ex} : evS C P (.exp e) = (evE C e).bind fun _ => M.pure .nx := rfl
theorem q_ret {e : Ex} : evS C P (.ret e) = (retM P e (evE C e)).bind fun r => M.pure (.rt r) := rfl
theorem q_ite {c : Ex} {a b : Sts} : evS C P (.ite c a b) = (testM (evE C c)).bind fun k => if k then evSs C P a else evSs C P b := rfl
theorem q_whl {c : Ex} {b : Sts} : evS C P (.whl c b) = whM (testM (evE C c)) (evSs C P b) := rfl
theorem q_fo {src : Src} {tg : Tg} {b : Sts} : evS C P (.fo src tg b) = if okT P tg then (evSrc C src).bind fun ds => foGo (fun d => (putT tg d).bind fun _ => evSs C P b) ds else bad := rfl
theorem q_rai {c : Nat} {s : S} : evS C P (.rai c) s = .err ⟨c, none⟩ s := rfl
theorem q_nil : evSs C P .nil = M.pure .nx := rfl
theorem q_cons {st : St} {ss : Sts} : evSs C P (.cons st ss) = (evS C P st).bind fun f => match f with
    | .nx => evSs C P ss
    | .rt r => M.pure (.rt r) := rfl
theorem q_ownO {i : Nat} {s : S} : ownO i s = match s[i]? with
  | some (.ow o) => .ok o s
  | _ => .bad := rfl
theorem six_l {i : Nat} {n : Int} {d : D} {xs : List D} : sixO i (.int n) d (.lst xs) = sixJ i d xs (L2.ixN xs.length n) := rfl
theorem six_d {i : Nat} {q d : D} {kvs : List (D × D)} : sixO i q d (.dic kvs) = sixT i q d kvs := rfl
/-! ### binds -/
theorem b_app {m : M α} {f : α → M β} {s : S} : (m.bind f) s = (m s).bind f := rfl
theorem b_ok {a : α} {s : S} {f : α → S → R β} : (R.ok a s).bind f = f a s := rfl
theorem b_bad {f : α → S → R β} : (R.bad : R α).bind f = .bad := rfl
theorem b_err {e : Er} {s : S} {f : α → S → R β} : (R.err e s : R α).bind f = .err e s := rfl
theorem p_app {a : α} {s : S} : (M.pure a) s = .ok a s := rfl
theorem p_bad {s : S} : (bad : M α) s = .bad := rfl
theorem l_some {a : α} {s : S} : (lift (some a)) s = .ok a s := rfl
theorem o_var {i : Nat} {m : M Sl} {s : S} : opnd (.var i) m s = opV i s := rfl
theorem f_app {m : M Sl} {s : S} : frz m s = (m s).bind fun r s1 => lift r.data s1 := rfl
theorem t_app {m : M Sl} {s : S} : testM m s = ((m s).bind fun r s1 => lift r.data s1).bind fun d s1 => (match d with
  | .bool b => M.pure b
  | _ => bad : M Bool) s1 := rfl
theorem d_sh {d : D} : (Sl.sh d).data = some d := rfl
theorem d_ow {o : Ob} : (Sl.ow o).data = some o.val := rfl
theorem r_d {d : D} {s : S} : resO (.d d) s = .ok d s := rfl
theorem r_v {i : Nat} {s : S} : resO (.v i) s = resV i s := rfl
theorem bM_app {b : Bool} {s : S} : bM b s = .ok (.sh (.bool b)) s := rfl
theorem a_t {i : Nat} {m : M Sl} {s : S} : argM true (.var i) m s = ioV i s := rfl
theorem a_f {e : Ex} {m : M Sl} {s : S} : argM false e m s = (frz m s).bind fun d s1 => R.ok (Ag.d d) s1 := rfl
theorem rs0 {s : S} : resOs [] s = .ok [] s := rfl
theorem rs1 {x : Op} {xs : List Op} {s : S} : resOs (x :: xs) s = (resO x s).bind fun d s1 => (resOs xs s1).bind fun ds s2 => R.ok (d :: ds) s2 := rfl
theorem nx_app {m : M Unit} {s : S} : nx m s = (m s).bind fun _ s1 => R.ok .nx s1 := rfl
theorem o_int {i : Int} {m : M Sl} {s : S} : opnd (.int i) m s = (frz m s).bind fun d s1 => R.ok (Op.d d) s1 := rfl
theorem m_int {i : Int} {m : M Sl} {s : S} : retM P (.int i) m s = m s := rfl
theorem o_str {x : Str} {m : M Sl} {s : S} : opnd (.str x) m s = (frz m s).bind fun d s1 => R.ok (Op.d d) s1 := rfl
theorem m_str {x : Str} {m : M Sl} {s : S} : retM P (.str x) m s = m s := rfl
theorem o_bl {b : Bool} {m : M Sl} {s : S} : opnd (.bl b) m s = (frz m s).bind fun d s1 => R.ok (Op.d d) s1 := rfl
theorem m_bl {b : Bool} {m : M Sl} {s : S} : retM P (.bl b) m s = m s := rfl
theorem o_non  {m : M Sl} {s : S} : opnd .non m s = (frz m s).bind fun d s1 => R.ok (Op.d d) s1 := rfl
theorem m_non  {m : M Sl} {s : S} : retM P .non m s = m s := rfl
theorem o_glo {x : Str} {m : M Sl} {s : S} : opnd (.glo x) m s = (frz m s).bind fun d s1 => R.ok (Op.d d) s1 := rfl
theorem m_glo {x : Str} {m : M Sl} {s : S} : retM P (.glo x) m s = m s := rfl
theorem o_bin {op : Operator} {a b : Ex} {m : M Sl} {s : S} : opnd (.bin op a b) m s = (frz m s).bind fun d s1 => R.ok (Op.d d) s1 := rfl
theorem m_bin {op : Operator} {a b : Ex} {m : M Sl} {s : S} : retM P (.bin op a b) m s = m s := rfl
theorem o_neg {a : Ex} {m : M Sl} {s : S} : opnd (.neg a) m s = (frz m s).bind fun d s1 => R.ok (Op.d d) s1 := rfl
theorem m_neg {a : Ex} {m : M Sl} {s : S} : retM P (.neg a) m s = m s := rfl
theorem o_cmp {op : CmpOp} {a b : Ex} {m : M Sl} {s : S} : opnd (.cmp op a b) m s = (frz m s).bind fun d s1 => R.ok (Op.d d) s1 := rfl
theorem m_cmp {op : CmpOp} {a b : Ex} {m : M Sl} {s : S} : retM P (.cmp op a b) m s = m s := rfl
theorem o_chain {o p : CmpOp} {a b c : Ex} {m : M Sl} {s : S} : opnd (.chain o p a b c) m s = (frz m s).bind fun d s1 => R.ok (Op.d d) s1 := rfl
theorem m_chain {o p : CmpOp} {a b c : Ex} {m : M Sl} {s : S} : retM P (.chain o p a b c) m s = m s := rfl
theorem o_and {es : Exs} {m : M Sl} {s : S} : opnd (.and es) m s = (frz m s).bind fun d s1 => R.ok (Op.d d) s1 := rfl
theorem m_and {es : Exs} {m : M Sl} {s : S} : retM P (.and es) m s = m s := rfl
theorem o_or {es : Exs} {m : M Sl} {s : S} : opnd (.or es) m s = (frz m s).bind fun d s1 => R.ok (Op.d d) s1 := rfl
theorem m_or {es : Exs} {m : M Sl} {s : S} : retM P (.or es) m s = m s := rfl
theorem o_not {a : Ex} {m : M Sl} {s : S} : opnd (.not a) m s = (frz m s).bind fun d s1 => R.ok (Op.d d) s1 := rfl
theorem m_not {a : Ex} {m : M Sl} {s : S} : retM P (.not a) m s = m s := rfl
theorem o_ife {c a b : Ex} {m : M Sl} {s : S} : opnd (.ife c a b) m s = (frz m s).bind fun d s1 => R.ok (Op.d d) s1 := rfl
theorem m_ife {c a b : Ex} {m : M Sl} {s : S} : retM P (.ife c a b) m s = m s := rfl
theorem o_ix {a i : Ex} {m : M Sl} {s : S} : opnd (.ix a i) m s = (frz m s).bind fun d s1 => R.ok (Op.d d) s1 := rfl
theorem m_ix {a i : Ex} {m : M Sl} {s : S} : retM P (.ix a i) m s = m s := rfl
theorem o_dget {a b c : Ex} {m : M Sl} {s : S} : opnd (.dget a b c) m s = (frz m s).bind fun d s1 => R.ok (Op.d d) s1 := rfl
theorem m_dget {a b c : Ex} {m : M Sl} {s : S} : retM P (.dget a b c) m s = m s := rfl
theorem o_dtk {es : Exs} {m : M Sl} {s : S} : opnd (.dtk es) m s = (frz m s).bind fun d s1 => R.ok (Op.d d) s1 := rfl
theorem m_dtk {es : Exs} {m : M Sl} {s : S} : retM P (.dtk es) m s = m s := rfl
theorem o_lset {a : Ex} {m : M Sl} {s : S} : opnd (.lset a) m s = (frz m s).bind fun d s1 => R.ok (Op.d d) s1 := rfl
theorem m_lset {a : Ex} {m : M Sl} {s : S} : retM P (.lset a) m s = m s := rfl
theorem o_cget {g : Str} {tab : List (Str × Int)} {e : Ex} {m : M Sl} {s : S} : opnd (.cget g tab e) m s = (frz m s).bind fun d s1 => R.ok (Op.d d) s1 := rfl
theorem m_cget {g : Str} {tab : List (Str × Int)} {e : Ex} {m : M Sl} {s : S} : retM P (.cget g tab e) m s = m s := rfl
theorem o_sl {a b c : Ex} {m : M Sl} {s : S} : opnd (.sl a b c) m s = (frz m s).bind fun d s1 => R.ok (Op.d d) s1 := rfl
theorem m_sl {a b c : Ex} {m : M Sl} {s : S} : retM P (.sl a b c) m s = m s := rfl
theorem o_orv {a b : Ex} {m : M Sl} {s : S} : opnd (.orv a b) m s = (frz m s).bind fun d s1 => R.ok (Op.d d) s1 := rfl
theorem m_orv {a b : Ex} {m : M Sl} {s : S} : retM P (.orv a b) m s = m s := rfl
theorem o_dix {a b : Ex} {m : M Sl} {s : S} : opnd (.dix a b) m s = (frz m s).bind fun d s1 => R.ok (Op.d d) s1 := rfl
theorem m_dix {a b : Ex} {m : M Sl} {s : S} : retM P (.dix a b) m s = m s := rfl
theorem o_dic {a b : Exs} {m : M Sl} {s : S} : opnd (.dic a b) m s = (frz m s).bind fun d s1 => R.ok (Op.d d) s1 := rfl
theorem m_dic {a b : Exs} {m : M Sl} {s : S} : retM P (.dic a b) m s = m s := rfl
theorem o_tup {es : Exs} {m : M Sl} {s : S} : opnd (.tup es) m s = (frz m s).bind fun d s1 => R.ok (Op.d d) s1 := rfl
theorem m_tup {es : Exs} {m : M Sl} {s : S} : retM P (.tup es) m s = m s := rfl
theorem o_lst {es : Exs} {m : M Sl} {s : S} : opnd (.lst es) m s = (frz m s).bind fun d s1 => R.ok (Op.d d) s1 := rfl
theorem m_lst {es : Exs} {m : M Sl} {s : S} : retM P (.lst es) m s = m s := rfl
theorem o_call {f : Nat} {es : Exs} {m : M Sl} {s : S} : opnd (.call f es) m s = (frz m s).bind fun d s1 => R.ok (Op.d d) s1 := rfl
theorem m_call {f : Nat} {es : Exs} {m : M Sl} {s : S} : retM P (.call f es) m s = m s := rfl
theorem o_bf {b : Bf} {es : Exs} {m : M Sl} {s : S} : opnd (.bf b es) m s = (frz m s).bind fun d s1 => R.ok (Op.d d) s1 := rfl
theorem m_bf {b : Bf} {es : Exs} {m : M Sl} {s : S} : retM P (.bf b es) m s = m s := rfl
theorem o_isi {a : Ex} {ts : List Ty} {m : M Sl} {s : S} : opnd (.isi a ts) m s = (frz m s).bind fun d s1 => R.ok (Op.d d) s1 := rfl
theorem m_isi {a : Ex} {ts : List Ty} {m : M Sl} {s : S} : retM P (.isi a ts) m s = m s := rfl
theorem o_lc {sr : Src} {tg : Tg} {c e : Ex} {ow : List Nat} {m : M Sl} {s : S} : opnd (.lc sr tg c e ow) m s = (frz m s).bind fun d s1 => R.ok (Op.d d) s1 := rfl
theorem m_lc {sr : Src} {tg : Tg} {c e : Ex} {ow : List Nat} {m : M Sl} {s : S} : retM P (.lc sr tg c e ow) m s = m s := rfl
theorem o_lcl {i : Nat} {tg : Tg} {c e : Ex} {ow : List Nat} {m : M Sl} {s : S} : opnd (.lcl i tg c e ow) m s = (frz m s).bind fun d s1 => R.ok (Op.d d) s1 := rfl
theorem m_lcl {i : Nat} {tg : Tg} {c e : Ex} {ow : List Nat} {m : M Sl} {s : S} : retM P (.lcl i tg c e ow) m s = m s := rfl
theorem o_pop {i : Nat} {e : Ex} {m : M Sl} {s : S} : opnd (.pop i e) m s = (frz m s).bind fun d s1 => R.ok (Op.d d) s1 := rfl
theorem m_pop {i : Nat} {e : Ex} {m : M Sl} {s : S} : retM P (.pop i e) m s = m s := rfl
theorem o_rfd {r g : Nat} {es : Exs} {ks : List Nat} {m : M Sl} {s : S} : opnd (.rfd r g es ks) m s = (frz m s).bind fun d s1 => R.ok (Op.d d) s1 := rfl
theorem m_rfd {r g : Nat} {es : Exs} {ks : List Nat} {m : M Sl} {s : S} : retM P (.rfd r g es ks) m s = m s := rfl
theorem m_var {i : Nat} {m : M Sl} {s : S} : retM P (.var i) m s = match s[i]? with
    | some (.ow o) => if i ∈ P then .bad else .ok (.ow o) (s.set i .un)
    | some (.sh d) => .ok (.sh d) s
    | _ => .bad := rfl
/-! ### data -/
section
variable {i j : Int} {a b c d e : D} {l xs ys : List D}
theorem k_add : binD .Add (.int i) (.int j) = some (.sh (.int (i + j))) := rfl
theorem k_sub : binD .Sub (.int i) (.int j) = some (.sh (.int (i - j))) := rfl
theorem k_mul (h : okMul i j = true) : binD .Mult (.int i) (.int j) = some (.sh (.int (i * j))) := if_pos h
theorem k_div (h : okDiv j = true) : binD .FloorDiv (.int i) (.int j) = some (.sh (.int (i.fdiv j))) := if_pos h
theorem k_mod (h : j ≠ 0) : binD .Mod (.int i) (.int j) = some (.sh (.int (i.fmod j))) := if_neg h
theorem k_lt : cmpD .Lt (.int i) (.int j) = some (decide (i < j)) := rfl
theorem k_le : cmpD .LtE (.int i) (.int j) = some (decide (i ≤ j)) := rfl
theorem k_gt : cmpD .Gt (.int i) (.int j) = some (decide (j < i)) := rfl
theorem k_ge : cmpD .GtE (.int i) (.int j) = some (decide (j ≤ i)) := rfl
theorem k_isn : cmpD .Is a .none = some (isNo a) := by cases a <;> rfl
theorem k_nisn : cmpD .IsNot a .none = some (!isNo a) := by cases a <;> rfl
theorem k_isb {a b : Bool} : cmpD .Is (.bool a) (.bool b) = some (decide (a = b)) := rfl
theorem k_nisb {a b : Bool} : cmpD .IsNot (.bool a) (.bool b) = some (!decide (a = b)) := rfl
theorem k_rev {xs : List D} : rvD (.list xs) = some (.ow (.lst xs.reverse)) := rfl
theorem k_eqi : cmpD .Eq (.int i) (.int j) = some (decide (i = j)) := by
  have e : PyData.eqv (.int i) (.int j) = (i == j) := by simp [PyData.eqv]
  show some (PyData.eqv (.int i) (.int j)) = _
  rw [e]
  by_cases h : i = j <;> simp [h]
theorem k_nei : cmpD .NotEq (.int i) (.int j) = some (!decide (i = j)) := by
  have e : PyData.eqv (.int i) (.int j) = (i == j) := by simp [PyData.eqv]
  show some (!PyData.eqv (.int i) (.int j)) = _
  rw [e]
  by_cases h : i = j <;> simp [h]
theorem x1_0 : ixD (.tuple [a]) (.int 0) = some a := rfl
theorem x2_0 : ixD (.tuple [a, b]) (.int 0) = some a := rfl
theorem x2_1 : ixD (.tuple [a, b]) (.int 1) = some b := rfl
theorem x3_0 : ixD (.tuple [a, b, c]) (.int 0) = some a := rfl
theorem x3_1 : ixD (.tuple [a, b, c]) (.int 1) = some b := rfl
theorem x3_2 : ixD (.tuple [a, b, c]) (.int 2) = some c := rfl
theorem x4_0 : ixD (.tuple [a, b, c, d]) (.int 0) = some a := rfl
theorem x4_1 : ixD (.tuple [a, b, c, d]) (.int 1) = some b := rfl
theorem x4_2 : ixD (.tuple [a, b, c, d]) (.int 2) = some c := rfl
theorem x4_3 : ixD (.tuple [a, b, c, d]) (.int 3) = some d := rfl
theorem y2_0 : ixD (.list [a, b]) (.int 0) = some a := rfl
theorem y2_1 : ixD (.list [a, b]) (.int 1) = some b := rfl
theorem y3_0 : ixD (.list [a, b, c]) (.int 0) = some a := rfl
theorem y3_1 : ixD (.list [a, b, c]) (.int 1) = some b := rfl
theorem y3_2 : ixD (.list [a, b, c]) (.int 2) = some c := rfl
theorem n_abs : bfD .abs [.int i] = some (.sh (.int (if i < 0 then -i else i))) := rfl
theorem n_int {b : Bool} : bfD .int [.bool b] = some (.sh (.int (if b then 1 else 0))) := rfl
theorem n_max : bfD .max [.int i, .int j] = some (.sh (.int (if j > i then j else i))) := rfl
theorem n_min : bfD .min [.int i, .int j] = some (.sh (.int (if j < i then j else i))) := rfl
theorem n_len : bfD .len [.list xs] = some (.sh (.int xs.length)) := rfl
theorem n_lent : bfD .len [.tuple xs] = some (.sh (.int xs.length)) := rfl
theorem n_tup : bfD .tuple [.list xs] = some (.sh (.tuple xs)) := rfl
theorem n_all : bfD .all [.list xs] = (allB xs).map fun b => .sh (.bool b) := rfl
theorem z0 {α : Type} : ([] : List α).length ≤ sizeLine := by show 0 ≤ sizeLine; decide
theorem z1 : [a].length ≤ sizeLine := by show 1 ≤ sizeLine; decide
theorem z2 : [a, b].length ≤ sizeLine := by show 2 ≤ sizeLine; decide
theorem z3 : [a, b, c].length ≤ sizeLine := by show 3 ≤ sizeLine; decide
theorem z4 : [a, b, c, d].length ≤ sizeLine := by show 4 ≤ sizeLine; decide
end
/-! ### slots -/
section
variable {s : S} {x y z u v : Sl} {d : D} {o : Ob} {n : Nat}
theorem v_app {i : Nat} : varM i s = match s[i]? with
  | some (.sh d) => .ok (.sh d) s
  | some (.ow o) => .ok (.sh o.val) (s.set i (.sh o.val))
  | _ => .bad := rfl
theorem opV_app {i : Nat} : opV i s = match s[i]? with
  | some (.ow _) => .ok (.v i) s
  | some (.sh d) => .ok (.d d) s
  | _ => .bad := rfl
theorem resV_app {i : Nat} : resV i s = match s[i]? with
  | some (.ow o) => .ok o.val s
  | some (.sh d) => .ok d s
  | _ => .bad := rfl
theorem ioV_app {i : Nat} : ioV i s = match s[i]? with
  | some (.ow _) => .ok (.io i) s
  | _ => .bad := rfl
theorem set_app {i : Nat} {r : Sl} : setS i r s = if i < s.length then .ok () (s.set i r) else .bad := rfl
theorem g0 : (x :: s)[0]? = some x := rfl
theorem g1 : (x :: y :: s)[1]? = some y := rfl
theorem g2 : (x :: y :: z :: s)[2]? = some z := rfl
theorem gS {n : Nat} : (x :: s)[n + 1]? = s[n]? := rfl
theorem st0 : (x :: s).set 0 y = y :: s := rfl
theorem stS {n : Nat} : (x :: s).set (n + 1) y = x :: s.set n y := rfl
theorem sz0 : 0 ≤ sizeLine := by decide
theorem sz1 : 1 ≤ sizeLine := by decide
theorem sz2 : 2 ≤ sizeLine := by decide
theorem sz3 : 3 ≤ sizeLine := by decide
theorem sz4 : 4 ≤ sizeLine := by decide
theorem sz5 : 5 ≤ sizeLine := by decide
theorem sz6 : 6 ≤ sizeLine := by decide
theorem sz7 : 7 ≤ sizeLine := by decide
theorem sz8 : 8 ≤ sizeLine := by decide
theorem sz9 : 9 ≤ sizeLine := by decide
theorem sz10 : 10 ≤ sizeLine := by decide
theorem sz11 : 11 ≤ sizeLine := by decide
theorem sz12 : 12 ≤ sizeLine := by decide
theorem sz13 : 13 ≤ sizeLine := by decide
theorem sz14 : 14 ≤ sizeLine := by decide
theorem sz15 : 15 ≤ sizeLine := by decide
theorem sz16 : 16 ≤ sizeLine := by decide
theorem sz17 : 17 ≤ sizeLine := by decide
theorem sz18 : 18 ≤ sizeLine := by decide
theorem sz19 : 19 ≤ sizeLine := by decide
theorem sz20 : 20 ≤ sizeLine := by decide
end
end
end Hg
set_option Elab.async false
set_option linter.all false
set_option maxRecDepth 100000
set_option maxHeartbeats 400000
/-! Walks and comprehensions: rules for reckoning. -/
namespace Hg
open PySem
theorem foGo_0 {turn : D → M Fl} {s : S} : foGo turn [] s = .ok .nx s := rfl
theorem foGo_t {turn : D → M Fl} {d : D} {ds : List D} {s s1 : S} (h : turn d s = .ok .nx s1) : foGo turn (d :: ds) s = foGo turn ds s1 := by
  show ((turn d s).bind fun f s1 => (match f with
    | .nx => foGo turn ds
    | .rt r => M.pure (.rt r)) s1) = _
  rw [h]
  rfl
theorem foGo_r {turn : D → M Fl} {d : D} {ds : List D} {s s1 : S} {r : Sl} (h : turn d s = .ok (.rt r) s1) : foGo turn (d :: ds) s = .ok (.rt r) s1 := by
  show ((turn d s).bind fun f s1 => (match f with
    | .nx => foGo turn ds
    | .rt r => M.pure (.rt r)) s1) = _
  rw [h]
  rfl
/-- a walk that keeps what is said of the slots -/
theorem foGo_inv {turn : D → M Fl} {I : S → Prop} : ∀ {ds : List D} {s : S}, I s → (∀ d ∈ ds, ∀ s, I s → ∃ s1, turn d s = .ok .nx s1 ∧ I s1) → ∃ s1, foGo turn ds s = .ok .nx s1 ∧ I s1
  | [], s, h, _ => ⟨s, rfl, h⟩
  | d :: ds, s, h, hs => by
    obtain ⟨s1, e1, h1⟩ := hs d List.mem_cons_self s h
    obtain ⟨s2, e2, h2⟩ := foGo_inv (ds := ds) h1 fun d hd => hs d (List.mem_cons_of_mem _ hd)
    exact ⟨s2, by rw [foGo_t e1]; exact e2, h2⟩
/-! ### comprehensions -/
theorem lcGo_all {α : Type} {own : List Nat} {turn : D → M (Option D)} {f : α → D} {o : α → Option D} {s0 : S} : ∀ {xs : List α}, (∀ x ∈ xs, ∃ s2, turn (f x) s0 = .ok (o x) s2 ∧ wipeS s2 own = s0) → lcGo own turn (xs.map f) s0 = .ok (xs.filterMap o) s0
  | [], _ => rfl
  | x :: xs, h => by
    obtain ⟨s2, e1, e2⟩ := h x List.mem_cons_self
    have ih := lcGo_all (xs := xs) fun d hd => h d (List.mem_cons_of_mem _ hd)
    show ((turn (f x) s0).bind fun o s1 => ((wipeM own).bind fun _ => (lcGo own turn (xs.map f)).bind fun r => M.pure (optCons o r)) s1) = _
    rw [e1]
    show ((lcGo own turn (xs.map f) (wipeS s2 own)).bind fun r s1 => R.ok (optCons (o x) r) s1) = _
    rw [e2, ih, List.filterMap_cons]
    cases o x <;> rfl
theorem back_self {s : S} {own : List Nat} (no : ∀ i ∈ own, i < s.length) : backS s (wipeS s own) own = s := by
  apply List.ext_getElem?
  intro j
  rw [backS_get (by rw [wipeS_len])]
  split
  · rfl
  · rename_i h
    rw [wipeS_get, if_neg fun z => h z.1]
theorem lcM_all {α : Type} {own : List Nat} {turn : D → M (Option D)} {src : M (List D)} {f : α → D} {o : α → Option D} {s s1 : S} {xs : List α} (hsrc : src s = .ok (xs.map f) s1) (hl : xs.length < sizeLine) (hi : ∀ i ∈ own, i < s1.length) (hno : own.all (fun i => notOw (s1.getD i .un)) = true)
    (h : ∀ x ∈ xs, ∃ s2, turn (f x) (wipeS s1 own) = .ok (o x) s2 ∧ wipeS s2 own = wipeS s1 own) : lcM own turn src s = .ok (.ow (.lst (xs.filterMap o))) s1 := by
  have hl : (xs.map f).length < sizeLine := by rw [List.length_map]; exact hl
  show ((src s).bind fun ds s => (if own.all (fun i => notOw (s.getD i .un)) && decide (ds.length < sizeLine) then
    (match lcGo own turn ds (wipeS s own) with
    | .bad => R.bad
    | .err _ _ => R.bad
    | .ok xs s' => R.ok (Sl.ow (Ob.lst xs)) (backS s s' own))
  else R.bad)) = _
  rw [hsrc]
  show (if own.all (fun i => notOw (s1.getD i .un)) && decide ((xs.map f).length < sizeLine) then
    (match lcGo own turn (xs.map f) (wipeS s1 own) with
    | .bad => R.bad
    | .err _ _ => R.bad
    | .ok xs s' => R.ok (Sl.ow (Ob.lst xs)) (backS s1 s' own))
  else R.bad) = _
  rw [if_pos (by rw [hno, decide_eq_true hl] <;> rfl), lcGo_all h]
  show R.ok _ (backS s1 (wipeS s1 own) own) = _
  rw [back_self hi]
theorem q_ownL {i : Nat} {s : S} : ownL i s = match s[i]? with
  | some (.ow (.lst xs)) => .ok xs s
  | _ => .bad := rfl
theorem q_nonM {i : Nat} {xs : List D} {s : S} : nonM i xs s = .ok (.sh .none) (s.set i (.ow (.lst xs))) := rfl
theorem q_setL {i : Nat} {xs : List D} {s : S} : setL i xs s = .ok () (s.set i (.ow (.lst xs))) := rfl
theorem q_app' {i : Nat} {d : D} {xs : List D} {s : S} (h : xs.length < sizeLine) : appM i d xs s = nonM i (xs ++ [d]) s := by
  unfold appM
  rw [if_pos h]
theorem q_ext' {i : Nat} {ys xs : List D} {s : S} (h : xs.length + ys.length ≤ sizeLine) : extM i (.list ys) xs s = nonM i (xs ++ ys) s := by
  show (if xs.length + ys.length ≤ sizeLine then nonM i (xs ++ ys) else bad) s = _
  rw [if_pos h]
theorem q_six' {i : Nat} {q : D} {d : D} {s : S} : sixM i q d s = (ownO i s).bind fun o s1 => sixO i q d o s1 := rfl

theorem q_sixJ {i j : Nat} {d : D} {xs : List D} : sixJ i d xs (some j) = setL i (xs.set j d) := rfl
theorem q_pt {i : Nat} {d : D} {s : S} : putT (.name i) d s = setS i (.sh d) s := rfl
theorem q_pt2 {a b : Tg} {x y : D} {s : S} : putT (.tup (.cons a (.cons b .nil))) (.tuple [x, y]) s = (putT a x s).bind fun _ s1 => (putT b y s1).bind fun _ s2 => R.ok () s2 := rfl
theorem allB_true : ∀ {n : Nat}, allB (List.replicate n (.bool true)) = some true
  | 0 => rfl
  | n + 1 => by
    rw [List.replicate_succ]
    show (allB (List.replicate n (.bool true))).map (true && ·) = _
    rw [allB_true]
    rfl
theorem y_0 {a : D} {l : List D} : ixD (.list (a :: l)) (.int 0) = some a := by
  show L2.atI (a :: l) 0 = some a
  unfold L2.atI L2.ixN
  rw [if_pos (by decide), if_pos (by rw [List.length_cons]; omega)]
  rfl
theorem p_non {m : M Sl} {s : S} : partM .non m s = .ok none s := rfl
theorem p_int {i : Int} {s : S} : partM (.int i) (M.pure (.sh (.int i))) s = .ok (some i) s := rfl
theorem sl_l {xs : List D} {lo hi : Option Int} : slD (.list xs) lo hi = some (.ow (.lst (cutD xs lo hi))) := rfl
theorem cut_1 {α : Type} {xs : List α} : cutD xs (some 1) none = xs.drop 1 := by
  unfold cutD HT.sIx
  cases xs with
  | nil => rfl
  | cons a l => simp
theorem fm_if {α β : Type} {p : α → Prop} [DecidablePred p] {f : α → β} : ∀ {xs : List α}, xs.filterMap (fun x => if p x then some (f x) else none) = (xs.filter fun x => decide (p x)).map f
  | [] => rfl
  | x :: xs => by
    rw [List.filterMap_cons, List.filter_cons]
    by_cases h : p x
    · rw [if_pos h, if_pos (decide_eq_true h), List.map_cons, fm_if]
    · rw [if_neg h, if_neg (by simpa using h), fm_if]
theorem k_pow18 : binD .Pow (.int 10) (.int 18) = some (.sh (.int 1000000000000000000)) := rfl
theorem k_neb {a b : Bool} : cmpD .NotEq (.bool a) (.bool b) = some (!(a == b)) := by cases a <;> cases b <;> rfl
theorem k_eqb {a b : Bool} : cmpD .Eq (.bool a) (.bool b) = some (a == b) := by cases a <;> cases b <;> rfl
theorem ixN20 : L2.ixN 2 0 = some 0 := rfl
theorem ixN21 : L2.ixN 2 1 = some 1 := rfl
theorem ix_of {xs : List D} {r : Int} (h0 : 0 ≤ r) (h : r.toNat < xs.length) : ixD (.list xs) (.int r) = some (xs[r.toNat]'h) := by
  show L2.atI xs r = _
  unfold L2.atI L2.ixN
  rw [if_pos h0, if_pos (by omega)]
  show xs[r.toNat]? = _
  exact List.getElem?_eq_getElem h
theorem fmod_in {a m : Int} (h : 0 < m) : 0 ≤ a.fmod m ∧ a.fmod m < m := ⟨Int.fmod_nonneg_of_pos a h, Int.fmod_lt_of_pos a h⟩
theorem fo_of {C : Cal} {P : List Nat} {src : Src} {tg : Tg} {b : Sts} {s s1 : S} {ds : List D} {r : R Fl} (ho : okT P tg = true) (hsrc : evSrc C src s = .ok ds s1) (hgo : foGo (fun d => (putT tg d).bind fun _ => evSs C P b) ds s1 = r) : evS C P (.fo src tg b) s = r := by
  rw [q_fo, if_pos ho]
  show (evSrc C src s).bind _ = r
  rw [hsrc]
  exact hgo
theorem rng_1 {n : Nat} (h : n < 1000000) : rngD [.int (n : Int)] = some ((List.range n).map fun (i : Nat) => PyData.int (i : Int)) := by
  unfold rngD
  dsimp only
  rw [if_pos ⟨by omega, by omega⟩, Int.toNat_natCast]
theorem src_rng1 {C : Cal} {e : Ex} {s s1 : S} {i : Int} {ds : List D} (h : evE C e s = .ok (.sh (.int i)) s1) (hr : rngD [.int i] = some ds) : evSrc C (.rng (.cons e .nil)) s = .ok ds s1 := by
  show (((evE C e s).bind fun r s' => lift r.data s').bind fun d s1 => R.ok [d] s1).bind (fun ds s1 => lift (rngD ds) s1) = _
  rw [h]
  show lift (rngD [.int i]) s1 = _
  rw [hr]
  rfl
theorem lcM_3 {own : List Nat} {turn : D → M (Option D)} {src : M (List D)} {s s1 t0 t1 t2 : S} {d0 d1 d2 v0 v1 v2 : D} (hsrc : src s = .ok [d0, d1, d2] s1) (hno : own.all (fun i => notOw (s1.getD i .un)) = true)
    (h0 : turn d0 (wipeS s1 own) = .ok (some v0) t0) (h1 : turn d1 (wipeS t0 own) = .ok (some v1) t1) (h2 : turn d2 (wipeS t1 own) = .ok (some v2) t2) : lcM own turn src s = .ok (.ow (.lst [v0, v1, v2])) (backS s1 (wipeS t2 own) own) := by
  have st : ∀ (d : D) (ds : List D) (s : S), lcGo own turn (d :: ds) s = (turn d s).bind fun o s1 => (lcGo own turn ds (wipeS s1 own)).bind fun r s2 => R.ok (optCons o r) s2 := fun _ _ _ => rfl
  have g : lcGo own turn [d0, d1, d2] (wipeS s1 own) = .ok [v0, v1, v2] (wipeS t2 own) := by
    rw [st, h0]
    show (lcGo own turn [d1, d2] (wipeS t0 own)).bind _ = _
    rw [st, h1]
    show ((lcGo own turn [d2] (wipeS t1 own)).bind _).bind _ = _
    rw [st, h2]
    rfl
  show ((src s).bind fun ds s => (if own.all (fun i => notOw (s.getD i .un)) && decide (ds.length < sizeLine) then
    (match lcGo own turn ds (wipeS s own) with
    | .bad => R.bad
    | .err _ _ => R.bad
    | .ok xs s' => R.ok (Sl.ow (Ob.lst xs)) (backS s s' own))
  else R.bad)) = _
  rw [hsrc]
  have l : decide ([d0, d1, d2].length < sizeLine) = true := decide_eq_true (show 3 < sizeLine by decide)
  show (if own.all (fun i => notOw (s1.getD i .un)) && decide ([d0, d1, d2].length < sizeLine) then
    (match lcGo own turn [d0, d1, d2] (wipeS s1 own) with
    | .bad => R.bad
    | .err _ _ => R.bad
    | .ok xs s' => R.ok (Sl.ow (Ob.lst xs)) (backS s1 s' own))
  else R.bad) = _
  rw [hno, l, g]
  rfl
theorem k_pow9 : binD .Pow (.int 10) (.int 9) = some (.sh (.int 1000000000)) := rfl
theorem lcGo_s {own : List Nat} {turn : D → M (Option D)} {d v : D} {ds vs : List D} {s s1 s2 : S} (h : turn d s = .ok (some v) s1) (hr : lcGo own turn ds (wipeS s1 own) = .ok vs s2) : lcGo own turn (d :: ds) s = .ok (v :: vs) s2 := by
  show ((turn d s).bind fun o s1 => (lcGo own turn ds (wipeS s1 own)).bind fun r s2 => R.ok (optCons o r) s2) = _
  rw [h]
  show ((lcGo own turn ds (wipeS s1 own)).bind fun r s2 => R.ok (optCons (some v) r) s2) = _
  rw [hr]
  rfl
theorem rng_4 : rngD [.int 4] = some [.int 0, .int 1, .int 2, .int 3] := (rng_1 (n := 4) (by decide)).trans rfl
theorem rng_2 : rngD [.int 2] = some [.int 0, .int 1] := (rng_1 (n := 2) (by decide)).trans rfl
theorem rng_3 : rngD [.int 3] = some [.int 0, .int 1, .int 2] := (rng_1 (n := 3) (by decide)).trans rfl
/-- a comprehension's turn -/
noncomputable abbrev lcT (C : Cal) (tg : Tg) (c e : Ex) : D → M (Option D) := fun d => (putT tg d).bind fun _ => (testM (evE C c)).bind fun q => if q then (frz (evE C e)).bind fun x => M.pure (some x) else M.pure none
theorem lc_run {C : Cal} {src : Src} {tg : Tg} {c e : Ex} {own : List Nat} {s s1 s2 : S} {ds vs : List D} (hsrc : evSrc C src s = .ok ds s1) (hl : ds.length < sizeLine) (hi : own.all (fun i => notOw (s1.getD i .un)) = true) (hg : lcGo own (lcT C tg c e) ds (wipeS s1 own) = .ok vs s2) :
    evE C (.lc src tg c e own) s = .ok (.ow (.lst vs)) (backS s1 s2 own) := by
  show ((evSrc C src s).bind fun ds s => (if own.all (fun i => notOw (s.getD i .un)) && decide (ds.length < sizeLine) then
    (match lcGo own (lcT C tg c e) ds (wipeS s own) with
    | .bad => R.bad
    | .err _ _ => R.bad
    | .ok xs s' => R.ok (Sl.ow (Ob.lst xs)) (backS s s' own))
  else R.bad)) = _
  rw [hsrc]
  show (if own.all (fun i => notOw (s1.getD i .un)) && decide (ds.length < sizeLine) then
    (match lcGo own (lcT C tg c e) ds (wipeS s1 own) with
    | .bad => R.bad
    | .err _ _ => R.bad
    | .ok xs s' => R.ok (Sl.ow (Ob.lst xs)) (backS s1 s' own))
  else R.bad) = _
  rw [if_pos (by rw [hi, decide_eq_true hl] <;> rfl), hg]
theorem lcGo_n {own : List Nat} {turn : D → M (Option D)} {s : S} : lcGo own turn [] s = .ok [] s := rfl
theorem lcGo_o {own : List Nat} {turn : D → M (Option D)} {d : D} {ds vs : List D} {s s1 s2 : S} (h : turn d s = .ok none s1) (hr : lcGo own turn ds (wipeS s1 own) = .ok vs s2) : lcGo own turn (d :: ds) s = .ok vs s2 := by
  show ((turn d s).bind fun o s1 => (lcGo own turn ds (wipeS s1 own)).bind fun r s2 => R.ok (optCons o r) s2) = _
  rw [h]
  show ((lcGo own turn ds (wipeS s1 own)).bind fun r s2 => R.ok (optCons none r) s2) = _
  rw [hr]
  rfl
/-! ### walks and comprehensions over lists that are written out -/
theorem foGo_c {turn : D → M Fl} {d : D} {ds : List D} {s : S} : foGo turn (d :: ds) s = (turn d s).bind fun f s1 => match f with
    | .nx => foGo turn ds s1
    | .rt r => .ok (.rt r) s1 := by
  show (turn d s).bind _ = _
  congr 1
  funext f s1
  cases f <;> rfl
theorem lcM_app {own : List Nat} {turn : D → M (Option D)} {src : M (List D)} {s : S} : lcM own turn src s = (src s).bind fun ds s => if own.all (fun i => notOw (s.getD i .un)) && decide (ds.length < sizeLine) then
    (match lcGo own turn ds (wipeS s own) with
    | .bad => R.bad
    | .err _ _ => R.bad
    | .ok xs s' => R.ok (Sl.ow (Ob.lst xs)) (backS s s' own))
  else R.bad := rfl
theorem lcL_app {own : List Nat} {turn : D → M (Option D)} {i : Nat} {s : S} : lcL own turn i s = match s[i]? with
  | some (.ow (.lst ds)) => (match lcM own turn (M.pure ds) (s.set i .un) with
    | .ok r s' => (match s'[i]? with
      | some .un => .ok r (s'.set i (.ow (.lst ds)))
      | _ => .bad)
    | _ => .bad)
  | some (.ow (.dic kvs)) => (match ktD kvs with
    | some m => lcLo own turn i (.dic kvs) (m.map fun p => keyT p.1) s
    | none => .bad)
  | _ => .bad := rfl
theorem lcGo_c {own : List Nat} {turn : D → M (Option D)} {d : D} {ds : List D} {s : S} : lcGo own turn (d :: ds) s = (turn d s).bind fun o s1 => (lcGo own turn ds (wipeS s1 own)).bind fun r s2 => R.ok (optCons o r) s2 := rfl
theorem wipe0 {s : S} : wipeS s [] = s := rfl
theorem wipe1 {s : S} {v : Nat} {vs : List Nat} : wipeS s (v :: vs) = (wipeS s vs).set v .un := rfl
theorem back0 {a s : S} : backS a s [] = s := rfl
theorem back1 {a s : S} {v : Nat} {vs : List Nat} : backS a s (v :: vs) = (backS a s vs).set v (a.getD v .un) := rfl
theorem now0 : notOw .un = true := rfl
theorem now1 {d : D} : notOw (.sh d) = true := rfl
theorem oc0 {r : List D} : optCons none r = r := rfl
theorem oc1 {x : D} {r : List D} : optCons (some x) r = x :: r := rfl
theorem sl0 : decide (0 < sizeLine) = true := by decide
theorem sl1 : decide (1 < sizeLine) = true := by decide
theorem sl2 : decide (2 < sizeLine) = true := by decide
theorem sl3 : decide (3 < sizeLine) = true := by decide
theorem sl4 : decide (4 < sizeLine) = true := by decide
theorem sl5 : decide (5 < sizeLine) = true := by decide
theorem ok_n {i : Nat} : okT [] (.name i) = true := rfl
end Hg
set_option Elab.async false
set_option linter.all false
set_option maxRecDepth 100000
set_option maxHeartbeats 400000
/-! Fractions as the texts have them; bounds. -/
namespace Hg
open PySem
/-- a fraction in its lowest terms -/
def fr (q : Rat) : D := .tuple [.int q.num, .int (q.den : Int)]
def Bi (n : Nat) (i : Int) : Prop := i.natAbs < 2 ^ n
def Bt (n : Nat) (q : Rat) : Prop := Bi n q.num ∧ Bi n (q.den : Int)
theorem log2_le {x n : Nat} (h : x < 2 ^ n) : x.log2 ≤ n := by
  by_cases z : x = 0
  · rw [z]
    show (0 : Nat).log2 ≤ n
    rw [show (0 : Nat).log2 = 0 by decide]
    omega
  · exact Nat.le_of_lt ((Nat.log2_lt z).mpr h)
theorem Bi.mono {n m : Nat} {i : Int} (h : Bi n i) (l : n ≤ m) : Bi m i := Nat.lt_of_lt_of_le h (Nat.pow_le_pow_right (by decide) l)
theorem Bt.mono {n m : Nat} {q : Rat} (h : Bt n q) (l : n ≤ m) : Bt m q := ⟨h.1.mono l, h.2.mono l⟩
theorem okMul_of {n m : Nat} {i j : Int} (h : Bi n i) (h2 : Bi m j) (l : n + m < 1000000) : okMul i j = true := by
  have a := log2_le h
  have b := log2_le h2
  unfold okMul
  exact decide_eq_true (by omega)
theorem okDiv_of {n : Nat} {j : Int} (h : Bi n j) (z : j ≠ 0) (l : n < 9000) : okDiv j = true := by
  have a := log2_le h
  unfold okDiv
  rw [decide_eq_true z, decide_eq_true (show j.natAbs.log2 < 9000 by omega)]
  rfl
theorem Bi.mul {n m : Nat} {i j : Int} (h : Bi n i) (h2 : Bi m j) : Bi (n + m) (i * j) := by
  unfold Bi at *
  rw [Int.natAbs_mul, Nat.pow_add]
  exact Nat.mul_lt_mul'' h h2
theorem Bi.add {n m : Nat} {i j : Int} (h : Bi n i) (h2 : Bi m j) (k : Nat) (l1 : n < k) (l2 : m < k) : Bi k (i + j) := by
  unfold Bi at *
  have a := Nat.pow_le_pow_right (n := 2) (by decide) (show n ≤ k - 1 by omega)
  have b := Nat.pow_le_pow_right (n := 2) (by decide) (show m ≤ k - 1 by omega)
  have c : 2 ^ k = 2 ^ (k - 1) + 2 ^ (k - 1) := by
    rw [show k = (k - 1) + 1 by omega, Nat.pow_succ]
    simp
    omega
  omega
theorem Bi.neg {n : Nat} {i : Int} (h : Bi n i) : Bi n (-i) := by
  unfold Bi at *
  rwa [Int.natAbs_neg]
theorem Bi.sub {n m : Nat} {i j : Int} (h : Bi n i) (h2 : Bi m j) (k : Nat) (l1 : n < k) (l2 : m < k) : Bi k (i - j) := by
  rw [Int.sub_eq_add_neg]
  exact h.add h2.neg k l1 l2
theorem Bi.abs {n : Nat} {i : Int} (h : Bi n i) : Bi n (if i < 0 then -i else i) := by
  split
  · exact h.neg
  · exact h
/-- the whole number that both are divided by -/
def byOf (a b : Int) : Int := if b < 0 then 0 - ((a.natAbs.gcd b.natAbs : Nat) : Int) else ((a.natAbs.gcd b.natAbs : Nat) : Int)
theorem byOf_ne {a b : Int} (h : b ≠ 0) : byOf a b ≠ 0 := by
  have z : 0 < a.natAbs.gcd b.natAbs := Nat.gcd_pos_of_pos_right _ (by omega)
  unfold byOf
  split <;> omega
theorem byOf_bi {a b : Int} {n : Nat} (h : b ≠ 0) (hb : Bi n b) : Bi n (byOf a b) := by
  have z : a.natAbs.gcd b.natAbs ≤ b.natAbs := Nat.gcd_le_right _ (by omega)
  unfold Bi at *
  unfold byOf
  split <;> omega
theorem byOf_dvd (a b : Int) : byOf a b ∣ a ∧ byOf a b ∣ b := by
  have h1 : ((a.natAbs.gcd b.natAbs : Nat) : Int) ∣ a := Int.gcd_dvd_left (a := a) (b := b)
  have h2 : ((a.natAbs.gcd b.natAbs : Nat) : Int) ∣ b := Int.gcd_dvd_right (a := a) (b := b)
  unfold byOf
  split
  · rw [Int.zero_sub]
    exact ⟨Int.neg_dvd.mpr h1, Int.neg_dvd.mpr h2⟩
  · exact ⟨h1, h2⟩
theorem div_num {a b : Int} (h : b ≠ 0) : a.fdiv (byOf a b) = (Rat.divInt a b).num ∧ b.fdiv (byOf a b) = ((Rat.divInt a b).den : Int) := by
  obtain ⟨d1, d2⟩ := byOf_dvd a b
  rw [Int.fdiv_eq_ediv_of_dvd d1, Int.fdiv_eq_ediv_of_dvd d2, Rat.num_divInt, Rat.den_divInt, if_neg h]
  have e : Int.gcd b a = a.natAbs.gcd b.natAbs := by rw [Int.gcd_comm] <;> rfl
  rw [e]
  have h1 : ((a.natAbs.gcd b.natAbs : Nat) : Int) ∣ a := Int.gcd_dvd_left (a := a) (b := b)
  have h2 : ((a.natAbs.gcd b.natAbs : Nat) : Int) ∣ b := Int.gcd_dvd_right (a := a) (b := b)
  unfold byOf
  by_cases n : b < 0
  · rw [if_pos n, Int.sign_eq_neg_one_of_neg n, Int.zero_sub, Int.ediv_neg, Int.ediv_neg]
    refine ⟨?_, ?_⟩
    · rw [show (-1 : Int) * a = -a by omega, Int.neg_ediv_of_dvd h1]
    · rw [Int.natCast_ediv, ← Int.neg_ediv_of_dvd h2]
      congr 1
      omega
  · rw [if_neg n, Int.sign_eq_one_of_pos (by omega), Int.one_mul]
    refine ⟨rfl, ?_⟩
    rw [Int.natCast_ediv]
    congr 1
    omega
theorem Bt.divInt {n : Nat} {a b : Int} (h : b ≠ 0) (ha : Bi n a) (hb : Bi n b) : Bt n (Rat.divInt a b) := by
  obtain ⟨e1, e2⟩ := div_num (a := a) h
  obtain ⟨d1, d2⟩ := byOf_dvd a b
  rw [Int.fdiv_eq_ediv_of_dvd d1] at e1
  rw [Int.fdiv_eq_ediv_of_dvd d2] at e2
  refine ⟨?_, ?_⟩
  · rw [← e1]
    exact Nat.lt_of_le_of_lt (Int.natAbs_ediv_le_natAbs _ _) ha
  · rw [← e2]
    exact Nat.lt_of_le_of_lt (Int.natAbs_ediv_le_natAbs _ _) hb
theorem den_ne (q : Rat) : (q.den : Int) ≠ 0 := by
  have := q.den_nz
  omega
theorem rat_add (a b : Rat) : a + b = Rat.divInt (a.num * b.den + b.num * a.den) (a.den * b.den) := by
  have z := Rat.divInt_add_divInt a.num b.num (den_ne a) (den_ne b)
  rwa [Rat.num_divInt_den, Rat.num_divInt_den] at z
theorem rat_mul (a b : Rat) : a * b = Rat.divInt (a.num * b.num) (a.den * b.den) := by
  have z := Rat.divInt_mul_divInt a.num b.num (d₁ := a.den) (d₂ := b.den)
  rwa [Rat.num_divInt_den, Rat.num_divInt_den] at z
theorem rn_neg (a : Rat) : (-a).num = -a.num := rfl
theorem rd_neg (a : Rat) : (-a).den = a.den := rfl
theorem rat_neg (a : Rat) : fr (-a) = .tuple [.int (0 - a.num), .int (a.den : Int)] := by
  unfold fr
  rw [rn_neg, rd_neg, Int.zero_sub]
theorem rat_sub (a b : Rat) : a - b = Rat.divInt (a.num * b.den - b.num * a.den) (a.den * b.den) := by
  rw [Rat.sub_eq_add_neg, rat_add, rn_neg, rd_neg]
  rw [Int.neg_mul, ← Int.sub_eq_add_neg]
theorem rat_div (a b : Rat) (h : b.num ≠ 0) : a / b = Rat.divInt (a.num * b.den) (a.den * b.num) := by
  rw [Rat.div_def, Rat.inv_def]
  have z := Rat.divInt_mul_divInt a.num b.den (d₁ := a.den) (d₂ := b.num)
  rwa [Rat.num_divInt_den] at z
theorem Bt.add {n m : Nat} {a b : Rat} (ha : Bt n a) (hb : Bt m b) : Bt (n + m + 1) (a + b) := by
  rw [rat_add]
  refine Bt.divInt (Int.mul_ne_zero (den_ne a) (den_ne b)) ?_ ((ha.2.mul hb.2).mono (by omega))
  exact (ha.1.mul hb.2).add (hb.1.mul ha.2) _ (by omega) (by omega)
theorem Bt.sub {n m : Nat} {a b : Rat} (ha : Bt n a) (hb : Bt m b) : Bt (n + m + 1) (a - b) := by
  rw [rat_sub]
  refine Bt.divInt (Int.mul_ne_zero (den_ne a) (den_ne b)) ?_ ((ha.2.mul hb.2).mono (by omega))
  exact (ha.1.mul hb.2).sub (hb.1.mul ha.2) _ (by omega) (by omega)
theorem Bt.mul {n m : Nat} {a b : Rat} (ha : Bt n a) (hb : Bt m b) : Bt (n + m) (a * b) := by
  rw [rat_mul]
  exact Bt.divInt (Int.mul_ne_zero (den_ne a) (den_ne b)) (ha.1.mul hb.1) (ha.2.mul hb.2)
theorem Bt.div {n m : Nat} {a b : Rat} (h : b ≠ 0) (ha : Bt n a) (hb : Bt m b) : Bt (n + m) (a / b) := by
  have h : b.num ≠ 0 := fun z => h (Rat.num_eq_zero.mp z)
  rw [rat_div a b h]
  exact Bt.divInt (Int.mul_ne_zero (den_ne a) h) (ha.1.mul hb.2) (ha.2.mul hb.1)
theorem Bt.neg {n : Nat} {a : Rat} (ha : Bt n a) : Bt n (-a) := by
  refine ⟨?_, ?_⟩
  · rw [rn_neg]
    exact ha.1.neg
  · rw [rd_neg]
    exact ha.2
/-- the size -/
def ab (a : Rat) : Rat := if a.num < 0 then -a else a
theorem fr_ab (a : Rat) : fr (ab a) = .tuple [.int (if a.num < 0 then -a.num else a.num), .int (a.den : Int)] := by
  unfold fr ab
  split <;> rfl
theorem num_neg_iff {a : Rat} : a.num < 0 ↔ a < 0 := by
  rw [← Int.not_le, Rat.num_nonneg, Rat.not_le]
theorem ab_sq (a : Rat) : ab a * ab a = a * a := by
  unfold ab
  split <;> grind
theorem ab_mul (a b : Rat) : ab (a * b) = ab a * ab b := by
  have key : ∀ {x : Rat}, (0 ≤ x → ab x = x) ∧ (x ≤ 0 → ab x = -x) := fun {x} => by
    unfold ab
    simp only [num_neg_iff]
    grind
  rcases Rat.le_total (a := 0) (b := a) with ha | ha <;> rcases Rat.le_total (a := 0) (b := b) with hb | hb
  · rw [key.1 ha, key.1 hb, key.1 (Rat.mul_nonneg ha hb)]
  · have z := Rat.mul_nonneg ha (show 0 ≤ -b by grind)
    rw [key.1 ha, key.2 hb, key.2 (show a * b ≤ 0 by grind)]
    grind
  · have z := Rat.mul_nonneg (show 0 ≤ -a by grind) hb
    rw [key.2 ha, key.1 hb, key.2 (show a * b ≤ 0 by grind)]
    grind
  · have z := Rat.mul_nonneg (show 0 ≤ -a by grind) (show 0 ≤ -b by grind)
    rw [key.2 ha, key.2 hb, key.1 (show 0 ≤ a * b by grind)]
    grind
theorem Bt.ab {n : Nat} {a : Rat} (h : Bt n a) : Bt n (Hg.ab a) := by
  unfold Hg.ab
  split
  · exact h.neg
  · exact h
theorem Bt.nat {n : Nat} {i : Nat} (hn : n ≠ 0) (h : i < 2 ^ n) : Bt n (i : Rat) := by
  refine ⟨?_, ?_⟩
  · show Bi n (i : Int)
    unfold Bi
    omega
  · show Bi n (1 : Int)
    unfold Bi
    have := Nat.one_lt_two_pow hn
    exact this
theorem eq_fr (a b : Rat) : eqD (fr a) (fr b) = some (decide (a = b)) := by
  have e : eqD (fr a) (fr b) = some (PyData.eqv (fr a) (fr b)) := rfl
  rw [e]
  congr 1
  by_cases h : a = b
  · subst h
    simp [fr, PyData.eqv, PyData.eqvAll]
  · rw [decide_eq_false h]
    have h2 : ¬ (a.num = b.num ∧ a.den = b.den) := fun z => h (Rat.ext z.1 z.2)
    simp [fr, PyData.eqv, PyData.eqvAll]
    omega
/-! ### squares -/
theorem sq_num (r : Rat) : (r * r).num = r.num * r.num ∧ (r * r).den = r.den * r.den := by
  have c : (r.num * r.num).natAbs.Coprime (r.den * r.den) := by
    rw [Int.natAbs_mul]
    exact Nat.Coprime.mul_left (Nat.Coprime.mul_right r.reduced r.reduced) (Nat.Coprime.mul_right r.reduced r.reduced)
  rw [Rat.mul_def, Rat.normalize_eq]
  have c1 : (r.num * r.num).natAbs.gcd (r.den * r.den) = 1 := c
  refine ⟨?_, ?_⟩
  · show r.num * r.num / (((r.num * r.num).natAbs.gcd (r.den * r.den) : Nat) : Int) = _
    rw [c1]
    simp
  · show r.den * r.den / (r.num * r.num).natAbs.gcd (r.den * r.den) = _
    rw [c1]
    simp
/-- a whole number's root, from below -/
def Rt (n r : Nat) : Prop := r * r ≤ n ∧ n < (r + 1) * (r + 1)
theorem Rt.uniq {n r r' : Nat} (h : Rt n r) (h' : Rt n r') : r = r' := by
  rcases Nat.lt_trichotomy r r' with z | z | z
  · have := Nat.mul_le_mul (show r + 1 ≤ r' from z) (show r + 1 ≤ r' from z)
    have a := h.2
    have b := h'.1
    omega
  · exact z
  · have := Nat.mul_le_mul (show r' + 1 ≤ r from z) (show r' + 1 ≤ r from z)
    have a := h'.2
    have b := h.1
    omega
theorem Rt.sq (r : Nat) : Rt (r * r) r := ⟨Nat.le_refl _, by rw [Nat.add_mul, Nat.mul_add]; omega⟩
theorem amgm (x y : Nat) : 4 * (x * y) ≤ (x + y) * (x + y) := by
  rcases Nat.le_total x y with z | z
  · obtain ⟨e, rfl⟩ := Nat.exists_eq_add_of_le z
    have h : (x + (x + e)) * (x + (x + e)) = 4 * (x * (x + e)) + e * e := by grind
    omega
  · obtain ⟨e, rfl⟩ := Nat.exists_eq_add_of_le z
    have h : (y + e + y) * (y + e + y) = 4 * ((y + e) * y) + e * e := by grind
    omega
/-- a step from above stays above -/
theorem newton {n x : Nat} (hx : 0 < x) : n < ((x + n / x) / 2 + 1) * ((x + n / x) / 2 + 1) := by
  have h1 : n < x * (n / x + 1) := Nat.lt_mul_div_succ n hx
  generalize n / x = q at h1 ⊢
  have h2 : x + q + 1 ≤ 2 * ((x + q) / 2 + 1) := by omega
  generalize (x + q) / 2 + 1 = m at h2 ⊢
  have h3 : (x + q + 1) * (x + q + 1) ≤ (2 * m) * (2 * m) := Nat.mul_le_mul h2 h2
  have h4 : 4 * (x * (q + 1)) ≤ (x + (q + 1)) * (x + (q + 1)) := amgm x (q + 1)
  rw [← Nat.add_assoc] at h4
  have h5 : (2 * m) * (2 * m) = 4 * (m * m) := by
    rw [Nat.mul_mul_mul_comm]
  omega
end Hg
set_option Elab.async false
set_option linter.all false
set_option maxRecDepth 100000
set_option maxHeartbeats 400000
/-! A law that walks its cells. -/
namespace Hg
open PySem
abbrev rngC (c : Int) : Src := .rng (.cons (.bf .max (.cons (.int 1) (.cons (.bf .min (.cons (.bf .len (.cons (.var 0) .nil)) (.cons (.int c) .nil))) .nil))) .nil)
theorem rngC_run {C : Cal} {c : Nat} {ns : List Int} {t : S} (hl : ns.length ≤ 63) (hc : c ≤ 63) : ∃ n : Nat, n ≤ 63 ∧ evSrc C (rngC (c : Int)) (lawArg ns :: t) = .ok ((List.range n).map fun (i : Nat) => PyData.int (i : Int)) (lawArg ns :: t) := by
  have h1 : (ns.map PyData.int).length = ns.length := List.length_map _
  have hn : ∃ n : Nat, n ≤ 63 ∧ (if (if (c : Int) < ((ns.map PyData.int).length : Int) then (c : Int) else ((ns.map PyData.int).length : Int)) > 1 then (if (c : Int) < ((ns.map PyData.int).length : Int) then (c : Int) else ((ns.map PyData.int).length : Int)) else (1 : Int)) = (n : Int) := by
    rw [h1]
    by_cases c1 : (c : Int) < (ns.length : Int)
    · rw [if_pos c1]
      by_cases c2 : (c : Int) > 1
      · rw [if_pos c2]
        exact ⟨c, hc, rfl⟩
      · rw [if_neg c2]
        exact ⟨1, by decide, rfl⟩
    · rw [if_neg c1]
      by_cases c2 : (ns.length : Int) > 1
      · rw [if_pos c2]
        exact ⟨ns.length, hl, rfl⟩
      · rw [if_neg c2]
        exact ⟨1, by decide, rfl⟩
  obtain ⟨n, n1, hn⟩ := hn
  refine ⟨n, n1, src_rng1 (i := (n : Int)) ?_ (rng_1 (n := n) (by omega))⟩
  rw [← hn]
  rfl
theorem law_of {C : Cal} {fd : Fd} {c : Nat} {body : Sts} {ns : List Int} (hb : fd.body = .cons (.fo (rngC (c : Int)) (.name 1) body) (.cons (.ret (.bl true)) .nil)) (hio : fd.io = [false]) (hl : ns.length ≤ 63) (hc : c ≤ 63)
    (I : S → Prop) (h0 : I (lawArg ns :: List.replicate (fd.N.length - 1) .un)) (hI : ∀ s, I s → ∃ t, s = lawArg ns :: t) (turn : ∀ (i : Nat) (s : S), I s → ∃ s1, ((putT (.name 1) (.int (i : Int))).bind fun _ => evSs C [] body) s = .ok .nx s1 ∧ I s1) :
    runFd C fd [lawArg ns] = .ok (.sh (.bool true)) [] := by
  obtain ⟨n, _, e⟩ := rngC_run (C := C) (c := c) (t := List.replicate (fd.N.length - 1) .un) hl hc
  obtain ⟨s1, e1, i1⟩ := foGo_inv (turn := fun d => (putT (.name 1) d).bind fun _ => evSs C [] body) (I := I) (ds := (List.range n).map fun (i : Nat) => PyData.int (i : Int)) h0 fun d hd s hs => by
    obtain ⟨i, _, rfl⟩ := List.mem_map.mp hd
    exact turn i s hs
  have e2 : evS C [] (.fo (rngC (c : Int)) (.name 1) body) (lawArg ns :: List.replicate (fd.N.length - 1) .un) = .ok .nx s1 := fo_of rfl e e1
  have st : startS fd.N.length [lawArg ns] = lawArg ns :: List.replicate (fd.N.length - 1) .un := rfl
  have gd : goodArgs fd.io [lawArg ns] = true := by rw [hio]; rfl
  have bd : evSs C (ioAt 0 fd.io) fd.body (startS fd.N.length [lawArg ns]) = .ok (.rt (.sh (.bool true))) s1 := by
    rw [st, hb, hio]
    show ((evS C [] (.fo (rngC (c : Int)) (.name 1) body) (lawArg ns :: List.replicate (fd.N.length - 1) .un)).bind fun f s => (match f with
      | .nx => evSs C [] (.cons (.ret (.bl true)) .nil)
      | .rt r => M.pure (.rt r)) s) = _
    rw [e2]
    rfl
  unfold runFd
  rw [if_pos gd, bd, hio]
  rfl
/-! ### refusals -/
theorem rfd_err {p : Pr} {k r g c n : Nat} {es : Exs} {ks : List Nat} {s s1 : S} {ds : List D} (h : 2 ≤ k) (ha : evAs (calAt p k) ((calAt p k).io g) es s = .ok (ds.map Ag.d) s1) (hr : (calAt p (k - 2)).run g (ds.map Sl.sh) = .err ⟨c, none⟩ []) (hn : ks[c]? = some n) :
    evE (calAt p k) (.rfd r g es ks) s = .ok (.ow (.lst [.int (n : Int)])) s1 := by
  obtain ⟨k, rfl⟩ := Nat.exists_eq_add_of_le' h
  have hr : (calAt p k).run g (ds.map Sl.sh) = .err ⟨c, none⟩ [] := hr
  have i1 : ∀ ds : List D, ioIx (ds.map Ag.d) = [] := fun ds => by
    induction ds with
    | nil => rfl
    | cons d ds ih => exact ih
  have i2 : ∀ ds : List D, argSls s1 (ds.map Ag.d) = some (ds.map Sl.sh) := fun ds => by
    induction ds with
    | nil => rfl
    | cons d ds ih =>
      show (match argSl s1 (.d d), argSls s1 (ds.map Ag.d) with
        | some x, some xs => some (x :: xs)
        | _, _ => none) = _
      rw [ih]
      rfl
  have e : evE (calAt p (k + 2)) (.rfd r g es ks) s = rfdM ks ((evAs (calAt p (k + 2)) ((calAt p (k + 2)).io g) es).bind fun as => callR (calAt p k).run g as) s := by
    rw [evE]
    rfl
  have e2 : ((evAs (calAt p (k + 2)) ((calAt p (k + 2)).io g) es).bind fun as => callR (calAt p k).run g as) s = .err ⟨c, none⟩ s1 := by
    show (evAs (calAt p (k + 2)) ((calAt p (k + 2)).io g) es s).bind _ = _
    rw [ha]
    show callR (calAt p k).run g (ds.map Ag.d) s1 = _
    unfold callR
    rw [i1, if_pos List.nodup_nil, i2]
    show callE ((calAt p k).run g (ds.map Sl.sh)) [] s1 = _
    rw [hr]
    rfl
  rw [e]
  unfold rfdM frz M.bind
  show (match (((evAs (calAt p (k + 2)) ((calAt p (k + 2)).io g) es).bind fun as => callR (calAt p k).run g as) s).bind (fun r s' => lift r.data s') with
    | .bad => R.bad
    | .ok _ s' => R.ok (Sl.sh .none) s'
    | .err e s' => match ks[e.cls]? with
      | some k => R.ok (Sl.ow (.lst [.int (k : Int)])) s'
      | none => .bad) = _
  rw [e2]
  show (match ks[c]? with
      | some k => R.ok (Sl.ow (.lst [.int (k : Int)])) s1
      | none => .bad) = _
  rw [hn]
/-- [n] == [n] -/
theorem eq_l1 {i j : Int} : cmpD .Eq (.list [.int i]) (.list [.int j]) = some (decide (i = j)) := by
  show some (PyData.eqv (.list [.int i]) (.list [.int j])) = _
  congr 1
  by_cases h : i = j <;> simp [PyData.eqv, PyData.eqvAll, h]
theorem ne_l1 {i j : Int} : cmpD .NotEq (.list [.int i]) (.list [.int j]) = some (!decide (i = j)) := by
  show (cmpD .Eq (.list [.int i]) (.list [.int j])).map (!·) = _
  rw [eq_l1]
  rfl
end Hg
set_option Elab.async false
set_option linter.all false
set_option maxRecDepth 100000
set_option maxHeartbeats 400000
/-! Bounds of small numbers. -/
namespace Hg
open PySem
theorem Bt.n0 : Bt 1 (0 : Rat) := Bt.nat (i := 0) (by decide) (by decide)
theorem Bt.n1 : Bt 1 (1 : Rat) := Bt.nat (i := 1) (by decide) (by decide)
theorem Bt.n2 : Bt 2 (2 : Rat) := Bt.nat (i := 2) (by decide) (by decide)
theorem Bt.n4 : Bt 3 (4 : Rat) := Bt.nat (i := 4) (by decide) (by decide)
end Hg
set_option Elab.async false
set_option linter.all false
set_option maxRecDepth 100000
set_option maxHeartbeats 400000
/-! Tables by pairs of whole numbers: the rows for simp. -/
namespace Hg
open PySem
theorem ky2 {a b : Int} : tkD (.tuple [.int a, .int b]) = some [a, b] := rfl
theorem kyT {a b : Int} : keyT [a, b] = .tuple [.int a, .int b] := rfl
theorem kt_un {m : Tb2} : ktD (unT m) = some m := ktD_un m
theorem kt_nil : ktD [] = some [] := rfl
theorem un_nil : unT [] = [] := rfl
theorem dct_un {m : Tb2} : dctD (.dict (unT m)) = some () := by
  show (ktD (unT m)).map (fun _ => ()) = _
  rw [ktD_un] <;> rfl
theorem dct_nil : dctD (.dict []) = some () := rfl
theorem ix_un {m : Tb2} {x : D} {k : List Int} (h : tkD x = some k) : ixD (.dict (unT m)) x = lkT m k := by
  show ixT (unT m) x = _
  unfold ixT
  rw [h, ktD_un]
theorem get_un {m : Tb2} {x d : D} {k : List Int} (h : tkD x = some k) : dgetD (.dict (unT m)) x d = some ((lkT m k).getD d) := by
  show (match tkD x, ktD (unT m) with
    | some ns, some m => some ((lkT m ns).getD d)
    | _, _ => none) = _
  rw [h, ktD_un]
theorem get_nil {x d : D} {k : List Int} (h : tkD x = some k) : dgetD (.dict []) x d = some d := get_un (m := []) h
theorem six_un {i : Nat} {q d : D} {m : Tb2} {k : List Int} {s : S} (h : tkD q = some k) (hl : m.length < sizeLine) : sixT i q d (unT m) s = .ok () (s.set i (.ow (.dic (unT (ptT m k d))))) := by
  unfold sixT
  rw [h, ktD_un]
  show (if m.length < sizeLine then setO i (.dic (unT (ptT m k d))) else bad) s = _
  rw [if_pos hl] <;> rfl
theorem six_nil {i : Nat} {q d : D} {k : List Int} {s : S} (h : tkD q = some k) : sixT i q d [] s = .ok () (s.set i (.ow (.dic (unT [(k, d)])))) := six_un (m := []) h (by decide)
theorem in_un {m : Tb2} {x : D} {k : List Int} (h : tkD x = some k) : cmpD .In x (.dict (unT m)) = some (lkT m k).isSome := by
  have e : inT x (unT m) = some (lkT m k).isSome := by
    unfold inT
    rw [h, ktD_un]
  rw [← e]
  cases x <;> rfl
theorem nin_un {m : Tb2} {x : D} {k : List Int} (h : tkD x = some k) : cmpD .NotIn x (.dict (unT m)) = some (!(lkT m k).isSome) := by
  have e : (inT x (unT m)).map (!·) = some (!(lkT m k).isSome) := by
    unfold inT
    rw [h, ktD_un] <;> rfl
  rw [← e]
  cases x <;> rfl
theorem eq_un {m q : Tb2} : cmpD .Eq (.dict (unT m)) (.dict (unT q)) = if m.length = q.length then eqQ q m else some false := by
  show eqT (unT m) (unT q) = _
  unfold eqT
  rw [ktD_un, ktD_un]
theorem ne_un {m q : Tb2} : cmpD .NotEq (.dict (unT m)) (.dict (unT q)) = (if m.length = q.length then eqQ q m else some false).map (!·) := by
  show (eqT (unT m) (unT q)).map (!·) = _
  unfold eqT
  rw [ktD_un, ktD_un]
theorem eq_emp {m : Tb2} : cmpD .Eq (.dict (unT m)) (.dict []) = some m.isEmpty := by
  show eqT (unT m) (unT []) = _
  unfold eqT
  rw [ktD_un, ktD_un]
  cases m <;> rfl
theorem ne_emp {m : Tb2} : cmpD .NotEq (.dict (unT m)) (.dict []) = some (!m.isEmpty) := by
  show (eqT (unT m) (unT [])).map (!·) = _
  unfold eqT
  rw [ktD_un, ktD_un]
  cases m <;> rfl
theorem len_un {m : Tb2} : bfD .len [.dict (unT m)] = some (.sh (.int m.length)) := by
  show (ktD (unT m)).map _ = _
  rw [ktD_un] <;> rfl
theorem max_un {m : Tb2} : bfD .max [.dict (unT m)] = (mxT m).map fun k => .sh (keyT k) := by
  show (ktD (unT m)).bind _ = _
  rw [ktD_un] <;> rfl
theorem cpy_un {m : Tb2} (h : unlike (m.map fun p => tkh p.1) = true) : bfD .dict [.dict (unT m)] = some (.ow (.dic (unT m))) := by
  show (ktD (unT m)).bind _ = _
  rw [ktD_un]
  show (if unlike (m.map fun p => tkh p.1) = true then some (Sl.ow (.dic (unT m))) else none) = _
  rw [if_pos h]
theorem seq_un {m : Tb2} : seqD (.dict (unT m)) = some (m.map fun p => keyT p.1) := by
  show (ktD (unT m)).map _ = _
  rw [ktD_un] <;> rfl
theorem vals_un {m : Tb2} : valsD (.dict (unT m)) = some (m.map (·.2)) := by
  show (ktD (unT m)).map _ = _
  rw [ktD_un] <;> rfl
theorem sum_2 {a b : Int} : bfD .sum [.tuple [.int a, .int b]] = some (.sh (.int (a + b))) := by
  have e : List.sum [a, b] = a + b := by simp
  rw [← e]
  rfl
theorem isi_d {kvs : List (D × D)} : isTy (.dict kvs) .dict = true := rfl
theorem prs_un : ∀ {m : Tb2}, prT (m.map fun p => PyData.tuple [keyT p.1, p.2]) = some m
  | [] => rfl
  | (k, v) :: m => by
    show (match tkD (keyT k), prT (m.map fun p => PyData.tuple [keyT p.1, p.2]) with
      | some ns, some q => some ((ns, v) :: q)
      | _, _ => none) = _
    rw [tkD_key, prs_un]
theorem dic_un {m : Tb2} {xs : List D} (h : xs = m.map fun p => PyData.tuple [keyT p.1, p.2]) : bfD .dict [.list xs] = some (.ow (.dic (unT (mkT [] m)))) := by
  show (prT xs).map _ = _
  rw [h, prs_un] <;> rfl
/-! ### unlike keys -/
/-- all keys unlike -/
def Nd (m : Tb2) : Prop := (m.map (·.1)).Nodup
theorem lkT_none {m : Tb2} {k : List Int} (h : k ∉ m.map (·.1)) : lkT m k = none := by
  induction m with
  | nil => rfl
  | cons p m ih =>
    rw [List.map_cons, List.mem_cons, not_or] at h
    rw [lkT_cons, if_neg fun z => h.1 z.symm]
    exact ih h.2
theorem lkT_some {m : Tb2} {k : List Int} (h : k ∈ m.map (·.1)) : (lkT m k).isSome = true := by
  induction m with
  | nil => cases h
  | cons p m ih =>
    rw [lkT_cons]
    by_cases e : p.1 = k
    · rw [if_pos e] <;> rfl
    · rw [if_neg e]
      rw [List.map_cons, List.mem_cons] at h
      exact ih (h.resolve_left fun z => e z.symm)
theorem lkT_mem {m : Tb2} (n : Nd m) {k : List Int} {v : D} (h : (k, v) ∈ m) : lkT m k = some v := by
  induction m with
  | nil => cases h
  | cons p m ih =>
    have n2 : p.1 ∉ m.map (·.1) ∧ (m.map (·.1)).Nodup := List.nodup_cons.mp n
    rw [lkT_cons]
    rcases List.mem_cons.mp h with e | h
    · rw [← e, if_pos rfl]
    · have : k ∈ m.map (·.1) := List.mem_map.mpr ⟨_, h, rfl⟩
      rw [if_neg (fun (z : p.1 = k) => n2.1 (z ▸ this))]
      exact ih n2.2 h
theorem mkT_snoc : ∀ (ps m : Tb2), ((m ++ ps).map (·.1)).Nodup → mkT m ps = m ++ ps
  | [], m, _ => by rw [List.append_nil] <;> rfl
  | p :: ps, m, h => by
    have e : ptT m p.1 p.2 = m ++ [p] := by
      unfold ptT
      have hn : p.1 ∉ m.map (·.1) := by
        rw [List.map_append, List.map_cons] at h
        exact fun z => (List.nodup_append.mp h).2.2 _ z _ List.mem_cons_self rfl
      rw [lkT_none hn, if_neg (by decide)]
    show mkT (ptT m p.1 p.2) ps = _
    rw [e, mkT_snoc ps (m ++ [p]) (by rw [List.append_assoc]; exact h), List.append_assoc] <;> rfl
theorem mkT_nd {ps : Tb2} (h : Nd ps) : mkT [] ps = ps := mkT_snoc ps [] h
theorem ptT_new {m : Tb2} {k : List Int} {v : D} (h : k ∉ m.map (·.1)) : ptT m k v = m ++ [(k, v)] := by
  unfold ptT
  rw [lkT_none h, if_neg (by decide)]
theorem ptT_keys {m : Tb2} {k : List Int} {v : D} : (ptT m k v).map (·.1) = if k ∈ m.map (·.1) then m.map (·.1) else m.map (·.1) ++ [k] := by
  unfold ptT
  by_cases h : k ∈ m.map (·.1)
  · rw [lkT_some h, if_pos rfl, if_pos h, List.map_map]
    refine List.map_congr_left fun p _ => ?_
    show (if p.1 = k then (p.1, v) else p).1 = p.1
    split <;> rfl
  · rw [lkT_none h, if_neg (by decide), if_neg h, List.map_append] <;> rfl
theorem Nd.put {m : Tb2} (n : Nd m) (k : List Int) (v : D) : Nd (ptT m k v) := by
  unfold Nd
  rw [ptT_keys]
  split
  · exact n
  · rename_i h
    exact List.nodup_append.mpr ⟨n, by simp, fun a ha b hb => by rw [List.mem_singleton.mp hb]; exact fun z => h (z ▸ ha)⟩
theorem lkT_put {m : Tb2} {k j : List Int} {v : D} : lkT (ptT m k v) j = if k = j then some v else lkT m j := by
  have app : ∀ m : Tb2, lkT (m ++ [(k, v)]) j = if k ∈ m.map (·.1) ∧ k = j then lkT m j else if k = j then some v else lkT m j := by
    intro m
    induction m with
    | nil =>
      show lkT ((k, v) :: []) j = _
      rw [lkT_cons]
      simp [lkT]
    | cons p m ih =>
      rw [List.cons_append, lkT_cons, lkT_cons, ih]
      by_cases e : p.1 = j
      · by_cases e2 : k = j
        · simp [e, e2]
        · simp [e, e2]
      · by_cases e2 : k = j
        · have : ¬ p.1 = k := fun z => e (z.trans e2)
          by_cases e3 : k ∈ m.map (·.1)
          · simp [e, e2, e2 ▸ e3]
          · have e4 : ¬ j ∈ m.map (·.1) := e2 ▸ e3
            have e5 : ¬ j = p.1 := fun z => e z.symm
            simp only [List.map_cons, List.mem_cons, e2, e4, e5, e, if_false, false_or, false_and, if_true]
        · simp [e, e2]
  have rep : ∀ m : Tb2, lkT (m.map fun p => if p.1 = k then (p.1, v) else p) j = if k = j then (lkT m j).map fun _ => v else lkT m j := by
    intro m
    induction m with
    | nil => simp [lkT]
    | cons p m ih =>
      rw [List.map_cons, lkT_cons, lkT_cons, ih]
      by_cases e : p.1 = k
      · rw [if_pos e]
        by_cases e2 : k = j
        · simp [e, e2]
        · have : ¬ p.1 = j := fun z => e2 (e.symm.trans z)
          simp [this, e2]
      · rw [if_neg e]
        by_cases e2 : k = j
        · have : ¬ p.1 = j := fun z => e (z.trans e2.symm)
          simp [this, e2]
        · by_cases e3 : p.1 = j <;> simp [e2, e3]
  unfold ptT
  by_cases h : k ∈ m.map (·.1)
  · rw [lkT_some h, if_pos rfl, rep]
    by_cases e : k = j
    · rw [if_pos e, if_pos e]
      obtain ⟨x, hx⟩ := Option.isSome_iff_exists.mp (lkT_some h)
      rw [← e, hx] <;> rfl
    · rw [if_neg e, if_neg e]
  · rw [lkT_none h, if_neg (by decide), app, if_neg (fun z => h z.1)]
end Hg
set_option Elab.async false
set_option linter.all false
set_option maxRecDepth 100000
set_option maxHeartbeats 400000
/-! Sums of powers as tables: plain mathematics. -/
namespace Hg
open PySem
abbrev K2 : Type := Int × Int
abbrev Cu : Type := List (K2 × Rat)
def ks (k : K2) : List Int := [k.1, k.2]
def cv (m : Cu) : Tb2 := m.map fun p => (ks p.1, fr p.2)
theorem ks_inj {a b : K2} (h : ks a = ks b) : a = b := by
  unfold ks at h
  injection h with h1 h2
  injection h2 with h2 _
  exact Prod.ext h1 h2
theorem ks_iff {a b : K2} : ks a = ks b ↔ a = b := ⟨ks_inj, fun h => by rw [h]⟩
theorem tk_ks (k : K2) : tkD (keyT (ks k)) = some (ks k) := tkD_key _
theorem tk_pair (i j : Int) : tkD (.tuple [.int i, .int j]) = some (ks (i, j)) := rfl
theorem key_pair (k : K2) : keyT (ks k) = .tuple [.int k.1, .int k.2] := rfl
theorem key_ix0 (k : K2) : ixD (keyT (ks k)) (.int 0) = some (.int k.1) := rfl
theorem key_ix1 (k : K2) : ixD (keyT (ks k)) (.int 1) = some (.int k.2) := rfl
/-! ### look-ups, stores -/
def lk (m : Cu) (k : K2) : Option Rat := (m.find? fun p => decide (p.1 = k)).map (·.2)
def co (m : Cu) (k : K2) : Rat := (lk m k).getD 0
def put (m : Cu) (k : K2) (v : Rat) : Cu := if (lk m k).isSome then m.map fun p => if p.1 = k then (p.1, v) else p else m ++ [(k, v)]
def Kd (m : Cu) : Prop := (m.map (·.1)).Nodup
theorem lk_cons {p : K2 × Rat} {m : Cu} {k : K2} : lk (p :: m) k = if p.1 = k then some p.2 else lk m k := by
  unfold lk
  rw [List.find?_cons]
  by_cases e : p.1 = k
  · rw [if_pos e, decide_eq_true e]
    rfl
  · rw [if_neg e, decide_eq_false e]
theorem lkT_cv (m : Cu) (k : K2) : lkT (cv m) (ks k) = (lk m k).map fr := by
  induction m with
  | nil => rfl
  | cons p m ih =>
    show lkT ((ks p.1, fr p.2) :: cv m) (ks k) = _
    rw [lkT_cons, lk_cons, ih]
    by_cases e : p.1 = k
    · rw [if_pos (congrArg ks e), if_pos e] <;> rfl
    · rw [if_neg fun z => e (ks_inj z), if_neg e]
theorem fr_zero : fr 0 = .tuple [.int 0, .int 1] := rfl
theorem getD_cv (m : Cu) (k : K2) : (lkT (cv m) (ks k)).getD (fr 0) = fr (co m k) := by
  rw [lkT_cv]
  unfold co
  cases lk m k <;> rfl
theorem ptT_cv (m : Cu) (k : K2) (v : Rat) : ptT (cv m) (ks k) (fr v) = cv (put m k v) := by
  unfold ptT put
  rw [lkT_cv, Option.isSome_map]
  by_cases c : (lk m k).isSome = true
  · rw [if_pos c, if_pos c]
    unfold cv
    rw [List.map_map, List.map_map]
    refine List.map_congr_left fun p _ => ?_
    show (if ks p.1 = ks k then (ks p.1, fr v) else (ks p.1, fr p.2)) = (fun p : K2 × Rat => (ks p.1, fr p.2)) (if p.1 = k then (p.1, v) else p)
    by_cases e : p.1 = k
    · rw [if_pos (congrArg ks e), if_pos e]
    · rw [if_neg fun z => e (ks_inj z), if_neg e]
  · rw [if_neg c, if_neg c]
    unfold cv
    rw [List.map_append] <;> rfl
theorem cv_len (m : Cu) : (cv m).length = m.length := List.length_map _
theorem lk_none {m : Cu} {k : K2} (h : k ∉ m.map (·.1)) : lk m k = none := by
  induction m with
  | nil => rfl
  | cons p m ih =>
    rw [List.map_cons, List.mem_cons, not_or] at h
    rw [lk_cons, if_neg fun z => h.1 z.symm]
    exact ih h.2
theorem lk_some {m : Cu} {k : K2} (h : k ∈ m.map (·.1)) : (lk m k).isSome = true := by
  induction m with
  | nil => cases h
  | cons p m ih =>
    rw [lk_cons]
    by_cases e : p.1 = k
    · rw [if_pos e] <;> rfl
    · rw [if_neg e]
      rw [List.map_cons, List.mem_cons] at h
      exact ih (h.resolve_left fun z => e z.symm)
theorem lk_mem {m : Cu} (n : Kd m) {k : K2} {v : Rat} (h : (k, v) ∈ m) : lk m k = some v := by
  induction m with
  | nil => cases h
  | cons p m ih =>
    have n2 : p.1 ∉ m.map (·.1) ∧ (m.map (·.1)).Nodup := List.nodup_cons.mp n
    rw [lk_cons]
    rcases List.mem_cons.mp h with e | h
    · rw [← e, if_pos rfl]
    · have : k ∈ m.map (·.1) := List.mem_map.mpr ⟨_, h, rfl⟩
      rw [if_neg (fun (z : p.1 = k) => n2.1 (z ▸ this))]
      exact ih n2.2 h
theorem mem_lk {m : Cu} {k : K2} {v : Rat} (h : lk m k = some v) : (k, v) ∈ m := by
  induction m with
  | nil => cases h
  | cons p m ih =>
    rw [lk_cons] at h
    by_cases e : p.1 = k
    · rw [if_pos e] at h
      cases h
      rw [← e]
      exact List.mem_cons_self
    · rw [if_neg e] at h
      exact List.mem_cons_of_mem _ (ih h)
theorem put_keys {m : Cu} {k : K2} {v : Rat} : (put m k v).map (·.1) = if k ∈ m.map (·.1) then m.map (·.1) else m.map (·.1) ++ [k] := by
  unfold put
  by_cases h : k ∈ m.map (·.1)
  · rw [lk_some h, if_pos rfl, if_pos h, List.map_map]
    refine List.map_congr_left fun p _ => ?_
    show (if p.1 = k then (p.1, v) else p).1 = p.1
    split <;> rfl
  · rw [lk_none h, if_neg (by decide), if_neg h, List.map_append] <;> rfl
theorem Kd.put {m : Cu} (n : Kd m) (k : K2) (v : Rat) : Kd (Hg.put m k v) := by
  unfold Kd
  rw [put_keys]
  split
  · exact n
  · rename_i h
    exact List.nodup_append.mpr ⟨n, by simp, fun a ha b hb => by rw [List.mem_singleton.mp hb]; exact fun z => h (z ▸ ha)⟩
theorem put_len {m : Cu} {k : K2} {v : Rat} : (put m k v).length ≤ m.length + 1 := by
  have z := congrArg List.length (put_keys (m := m) (k := k) (v := v))
  rw [List.length_map] at z
  rw [z]
  split
  · rw [List.length_map]; omega
  · rw [List.length_append, List.length_map] <;> simp
theorem lk_put {m : Cu} {k j : K2} {v : Rat} : lk (put m k v) j = if k = j then some v else lk m j := by
  have z := lkT_put (m := cv m) (k := ks k) (j := ks j) (v := fr v)
  rw [ptT_cv, lkT_cv, lkT_cv] at z
  have fi : ∀ a b : Rat, fr a = fr b → a = b := fun a b h => by
    unfold fr at h
    injection h with h
    injection h with h1 h2
    injection h2 with h2 _
    injection h1 with h1
    injection h2 with h2
    exact Rat.ext h1 (by omega)
  have mi : ∀ a b : Option Rat, a.map fr = b.map fr → a = b := fun a b h => by
    cases a <;> cases b <;> first | rfl | cases h | (rw [fi _ _ (Option.some.inj h)])
  refine mi _ _ ?_
  rw [z]
  by_cases e : k = j
  · rw [if_pos (congrArg ks e), if_pos e] <;> rfl
  · rw [if_neg fun z => e (ks_inj z), if_neg e]
theorem co_put {m : Cu} {k j : K2} {v : Rat} : co (put m k v) j = if k = j then v else co m j := by
  unfold co
  rw [lk_put]
  split <;> rfl
theorem put_mem {m : Cu} {k : K2} {v : Rat} {p : K2 × Rat} (h : p ∈ put m k v) : p = (k, v) ∨ p ∈ m := by
  unfold put at h
  split at h
  · obtain ⟨q, hq, e⟩ := List.mem_map.mp h
    split at e
    · rename_i c
      rw [← e, c]
      exact .inl rfl
    · rw [← e]
      exact .inr hq
  · rcases List.mem_append.mp h with h | h
    · exact .inr h
    · exact .inl (List.mem_singleton.mp h)
/-! ### noughts left out -/
def wn (m : Cu) : Cu := m.filter fun p => decide (p.2 ≠ 0)
theorem Kd.wn {m : Cu} (n : Kd m) : Kd (Hg.wn m) := by
  unfold Kd Hg.wn at *
  exact List.Nodup.sublist (List.Sublist.map _ List.filter_sublist) n
theorem wn_self {m : Cu} (h : ∀ p ∈ m, p.2 ≠ 0) : wn m = m := List.filter_eq_self.mpr fun p hp => decide_eq_true (h p hp)
theorem wn_nz {m : Cu} : ∀ p ∈ wn m, p.2 ≠ 0 := fun p hp => of_decide_eq_true (List.mem_filter.mp hp).2
theorem wn_mem {m : Cu} {p : K2 × Rat} (h : p ∈ wn m) : p ∈ m := (List.mem_filter.mp h).1
theorem co_none {m : Cu} {k : K2} (h : k ∉ m.map (·.1)) : co m k = 0 := by
  unfold co
  rw [lk_none h] <;> rfl
theorem co_mem {m : Cu} (n : Kd m) {p : K2 × Rat} (h : p ∈ m) : co m p.1 = p.2 := by
  unfold co
  rw [lk_mem n (v := p.2) h] <;> rfl
theorem co_wn {m : Cu} (n : Kd m) (k : K2) : co (wn m) k = co m k := by
  by_cases h : k ∈ m.map (·.1)
  · obtain ⟨p, hp, rfl⟩ := List.mem_map.mp h
    rw [co_mem n hp]
    by_cases z : p.2 = 0
    · rw [z]
      refine co_none fun y => ?_
      obtain ⟨q, hq, e⟩ := List.mem_map.mp y
      have h1 := co_mem n (wn_mem hq)
      rw [e, co_mem n hp, z] at h1
      exact wn_nz q hq h1.symm
    · exact co_mem n.wn (List.mem_filter.mpr ⟨hp, decide_eq_true z⟩)
  · rw [co_none h]
    refine co_none fun y => h ?_
    obtain ⟨q, hq, e⟩ := List.mem_map.mp y
    exact List.mem_map.mpr ⟨q, wn_mem hq, e⟩
/-! ### a box of powers -/
def Bx (n : Nat) (m : Cu) : Prop := ∀ p ∈ m, 0 ≤ p.1.1 ∧ p.1.1 < n ∧ 0 ≤ p.1.2 ∧ p.1.2 < n
def boxK (n : Nat) : List (List Int) := (List.range n).flatMap fun (i : Nat) => (List.range n).map fun (j : Nat) => [(i : Int), (j : Int)]
theorem hash_box : unlike ((boxK 13).map tkh) = true := by decide +kernel
theorem unlike_of {l : List Int} (h : l.Nodup) : unlike l = true := by
  induction l with
  | nil => rfl
  | cons a r ih =>
    have h2 := List.nodup_cons.mp h
    show (!r.contains a && unlike r) = true
    rw [ih h2.2, Bool.and_true, Bool.not_eq_true']
    cases c : r.contains a with
    | false => rfl
    | true => exact (h2.1 (List.contains_iff_mem.mp c)).elim
theorem inj_of_nodup {α β : Type} {f : α → β} : ∀ {l : List α}, (l.map f).Nodup → ∀ a ∈ l, ∀ b ∈ l, f a = f b → a = b
  | [], _, a, h, _, _, _ => nomatch h
  | x :: l, n, a, ha, b, hb, e => by
    have n2 := List.nodup_cons.mp n
    rcases List.mem_cons.mp ha with h1 | h1
    · rcases List.mem_cons.mp hb with h2 | h2
      · rw [h1, h2]
      · exact (n2.1 (by rw [← h1, e]; exact List.mem_map.mpr ⟨b, h2, rfl⟩)).elim
    · rcases List.mem_cons.mp hb with h2 | h2
      · exact (n2.1 (by rw [← h2, ← e]; exact List.mem_map.mpr ⟨a, h1, rfl⟩)).elim
      · exact inj_of_nodup n2.2 a h1 b h2 e
theorem box_mem {n : Nat} {k : K2} (h : 0 ≤ k.1 ∧ k.1 < n ∧ 0 ≤ k.2 ∧ k.2 < n) : ks k ∈ boxK n := by
  unfold boxK
  refine List.mem_flatMap.mpr ⟨k.1.toNat, List.mem_range.mpr (by omega), List.mem_map.mpr ⟨k.2.toNat, List.mem_range.mpr (by omega), ?_⟩⟩
  have e1 : ((k.1.toNat : Nat) : Int) = k.1 := by omega
  have e2 : ((k.2.toNat : Nat) : Int) = k.2 := by omega
  rw [e1, e2] <;> rfl
theorem box_unlike {m : Cu} (n : Kd m) (b : Bx 13 m) : unlike ((cv m).map fun p => tkh p.1) = true := by
  refine unlike_of ?_
  have e : ((cv m).map fun p => tkh p.1) = (m.map (·.1)).map fun k => tkh (ks k) := by
    unfold cv
    rw [List.map_map, List.map_map] <;> rfl
  rw [e]
  have nd := unlike_nodup hash_box
  unfold Kd at n
  have go : ∀ l : List K2, l.Nodup → (∀ k ∈ l, 0 ≤ k.1 ∧ k.1 < (13 : Nat) ∧ 0 ≤ k.2 ∧ k.2 < (13 : Nat)) → (l.map fun k => tkh (ks k)).Nodup := by
    intro l
    induction l with
    | nil => intro _ _; exact List.nodup_nil
    | cons k l ih =>
      intro hn hb
      have h2 := List.nodup_cons.mp hn
      refine List.nodup_cons.mpr ⟨fun z => ?_, ih h2.2 fun j hj => hb j (List.mem_cons_of_mem _ hj)⟩
      obtain ⟨j, hj, ej⟩ := List.mem_map.mp z
      have := inj_of_nodup nd (ks j) (box_mem (hb j (List.mem_cons_of_mem _ hj))) (ks k) (box_mem (hb k List.mem_cons_self)) ej
      exact h2.1 (ks_inj this ▸ hj)
  refine go _ n fun k hk => ?_
  obtain ⟨p, hp, rfl⟩ := List.mem_map.mp hk
  exact b p hp
theorem Bx.put {n : Nat} {m : Cu} (b : Bx n m) {k : K2} (h : 0 ≤ k.1 ∧ k.1 < n ∧ 0 ≤ k.2 ∧ k.2 < n) (v : Rat) : Bx n (Hg.put m k v) := fun p hp => by
  rcases put_mem hp with e | hp
  · rw [e]
    exact h
  · exact b p hp
theorem Bx.wn {n : Nat} {m : Cu} (b : Bx n m) : Bx n (Hg.wn m) := fun p hp => b p (wn_mem hp)
theorem Bx.mono {n n' : Nat} {m : Cu} (b : Bx n m) (h : n ≤ n') : Bx n' m := fun p hp => by have := b p hp; omega
/-! ### sums -/
/-- one more sum -/
def pad (m : Cu) (p : K2 × Rat) : Cu := put m p.1 (co m p.1 + p.2)
def addC (m q : Cu) : Cu := q.foldl pad m
theorem co_pad {m : Cu} {p : K2 × Rat} {k : K2} : co (pad m p) k = co m k + if p.1 = k then p.2 else 0 := by
  unfold pad
  rw [co_put]
  by_cases e : p.1 = k
  · rw [if_pos e, if_pos e, e]
  · rw [if_neg e, if_neg e]
    grind
theorem Kd.pad {m : Cu} (n : Kd m) (p : K2 × Rat) : Kd (Hg.pad m p) := n.put _ _
theorem Kd.add {m : Cu} (n : Kd m) : ∀ q : Cu, Kd (addC m q) := fun q => by
  unfold addC
  induction q generalizing m with
  | nil => exact n
  | cons p q ih => exact ih (n.pad p)
theorem addC_len : ∀ (q m : Cu), (addC m q).length ≤ m.length + q.length
  | [], m => Nat.le_refl _
  | p :: q, m => by
    have z := addC_len q (pad m p)
    have y : (pad m p).length ≤ m.length + 1 := put_len
    show (addC (pad m p) q).length ≤ _
    rw [List.length_cons]
    omega
theorem Bx.add {n : Nat} {m : Cu} (b : Bx n m) : ∀ {q : Cu}, Bx n q → Bx n (addC m q) := fun {q} bq => by
  unfold addC
  induction q generalizing m with
  | nil => exact b
  | cons p q ih => exact ih (b.put (bq p List.mem_cons_self) _) fun x hx => bq x (List.mem_cons_of_mem _ hx)
theorem co_cons {p : K2 × Rat} {m : Cu} {k : K2} : co (p :: m) k = if p.1 = k then p.2 else co m k := by
  unfold co
  rw [lk_cons]
  split <;> rfl
theorem co_add : ∀ {q : Cu} (m : Cu), Kd q → ∀ k, co (addC m q) k = co m k + co q k
  | [], m, _, k => by
    show co m k = co m k + 0
    grind
  | p :: q, m, n, k => by
    have n2 : p.1 ∉ q.map (·.1) ∧ (q.map (·.1)).Nodup := List.nodup_cons.mp n
    show co (addC (pad m p) q) k = _
    rw [co_add (pad m p) n2.2 k, co_pad, co_cons]
    by_cases e : p.1 = k
    · have z : co q k = 0 := co_none (by rw [← e]; exact n2.1)
      rw [if_pos e, if_pos e, z]
      grind
    · rw [if_neg e, if_neg e]
      grind
/-! ### so many times -/
def mulC (m : Cu) (a : Rat) : Cu := m.map fun p => (p.1, p.2 * a)
theorem mulC_keys (m : Cu) (a : Rat) : (mulC m a).map (·.1) = m.map (·.1) := by
  unfold mulC
  rw [List.map_map] <;> rfl
theorem Kd.mul {m : Cu} (n : Kd m) (a : Rat) : Kd (mulC m a) := by
  unfold Kd
  rw [mulC_keys]
  exact n
theorem co_mul (m : Cu) (a : Rat) (k : K2) : co (mulC m a) k = co m k * a := by
  induction m with
  | nil => show (0 : Rat) = 0 * a; grind
  | cons p m ih =>
    show co ((p.1, p.2 * a) :: mulC m a) k = _
    rw [co_cons, co_cons, ih]
    split <;> rfl
theorem Bx.mul {n : Nat} {m : Cu} (b : Bx n m) (a : Rat) : Bx n (mulC m a) := fun p hp => by
  obtain ⟨q, hq, rfl⟩ := List.mem_map.mp hp
  exact b q hq
end Hg
set_option Elab.async false
set_option linter.all false
set_option maxRecDepth 100000
set_option maxHeartbeats 400000
/-! The normal one: plain mathematics. -/
namespace Hg
open PySem
def gl (l : List Nat) : Nat := l.foldl Nat.gcd 0
theorem gl_snoc (l : List Nat) (x : Nat) : gl (l ++ [x]) = Nat.gcd (gl l) x := by
  unfold gl
  rw [List.foldl_append] <;> rfl
theorem gl_mul (k : Nat) (l : List Nat) : gl (l.map (· * k)) = gl l * k := by
  have go : ∀ (l : List Nat) (a : Nat), (l.map (· * k)).foldl Nat.gcd (a * k) = l.foldl Nat.gcd a * k := by
    intro l
    induction l with
    | nil => intro a; rfl
    | cons x l ih =>
      intro a
      rw [List.map_cons, List.foldl_cons, List.foldl_cons, Nat.gcd_mul_right, ih]
  have z := go l 0
  rwa [Nat.zero_mul] at z
theorem gl_dvd : ∀ (l : List Nat) (x : Nat), x ∈ l → gl l ∣ x := by
  have go : ∀ (l : List Nat) (a : Nat), l.foldl Nat.gcd a ∣ a ∧ ∀ x ∈ l, l.foldl Nat.gcd a ∣ x := by
    intro l
    induction l with
    | nil => intro a; exact ⟨Nat.dvd_refl _, fun x h => nomatch h⟩
    | cons y l ih =>
      intro a
      obtain ⟨h1, h2⟩ := ih (Nat.gcd a y)
      refine ⟨Nat.dvd_trans h1 (Nat.gcd_dvd_left _ _), fun x hx => ?_⟩
      rcases List.mem_cons.mp hx with rfl | hx
      · exact Nat.dvd_trans h1 (Nat.gcd_dvd_right _ _)
      · exact h2 x hx
  exact fun l x hx => (go l 0).2 x hx
theorem dvd_gl {l : List Nat} {d : Nat} (h : ∀ x ∈ l, d ∣ x) : d ∣ gl l := by
  have go : ∀ (l : List Nat) (a : Nat), d ∣ a → (∀ x ∈ l, d ∣ x) → d ∣ l.foldl Nat.gcd a := by
    intro l
    induction l with
    | nil => intro a h _; exact h
    | cons y l ih => exact fun a h h2 => ih _ (Nat.dvd_gcd h (h2 y List.mem_cons_self)) fun x hx => h2 x (List.mem_cons_of_mem _ hx)
  exact go l 0 (Nat.dvd_zero d) h
def lcmF (a : Nat) (m : Cu) : Nat := m.foldl (fun a p => Nat.lcm a p.2.den) a
def gcdF (a : Nat) (m : Cu) : Nat := m.foldl (fun a p => Nat.gcd a p.2.num.natAbs) a
def proF (a : Nat) (m : Cu) : Nat := m.foldl (fun a p => a * p.2.den) a
abbrev lcmC (m : Cu) : Nat := lcmF 1 m
abbrev gcdC (m : Cu) : Nat := gcdF 0 m
abbrev proC (m : Cu) : Nat := proF 1 m
theorem den_pos' (q : Rat) : 0 < q.den := Nat.pos_of_ne_zero q.den_nz
theorem norm_step {done : Cu} {L G : Nat} {q : Rat} (hL : 0 < L) (hc : Nat.Coprime G L) (hd : ∀ p ∈ done, p.2.den ∣ L) (hg : gl (done.map fun p => p.2.num.natAbs * (L / p.2.den)) = G) (k : K2) :
    0 < Nat.lcm L q.den ∧ Nat.Coprime (Nat.gcd G q.num.natAbs) (Nat.lcm L q.den) ∧ (∀ p ∈ done ++ [(k, q)], p.2.den ∣ Nat.lcm L q.den) ∧ gl ((done ++ [(k, q)]).map fun p => p.2.num.natAbs * (Nat.lcm L q.den / p.2.den)) = Nat.gcd G q.num.natAbs := by
  have dp := den_pos' q
  have lp : 0 < Nat.lcm L q.den := Nat.pos_of_ne_zero (Nat.lcm_ne_zero (by omega) (by omega))
  have cp : Nat.Coprime q.num.natAbs q.den := q.reduced
  have d1 : L ∣ Nat.lcm L q.den := Nat.dvd_lcm_left _ _
  have d2 : q.den ∣ Nat.lcm L q.den := Nat.dvd_lcm_right _ _
  refine ⟨lp, ?_, fun p hp => ?_, ?_⟩
  · have h1 : Nat.Coprime (Nat.gcd G q.num.natAbs) L := Nat.Coprime.coprime_dvd_left (Nat.gcd_dvd_left _ _) hc
    have h2 : Nat.Coprime (Nat.gcd G q.num.natAbs) q.den := Nat.Coprime.coprime_dvd_left (Nat.gcd_dvd_right _ _) cp
    exact Nat.Coprime.coprime_dvd_right (Nat.lcm_dvd_mul _ _) (Nat.Coprime.mul_right h1 h2)
  · rcases List.mem_append.mp hp with h | h
    · exact Nat.dvd_trans (hd p h) d1
    · rw [List.mem_singleton.mp h]
      exact d2
  · rw [List.map_append, List.map_cons, List.map_nil, gl_snoc]
    have e1 : (done.map fun p => p.2.num.natAbs * (Nat.lcm L q.den / p.2.den)) = (done.map fun p => p.2.num.natAbs * (L / p.2.den)).map (· * (Nat.lcm L q.den / L)) := by
      rw [List.map_map]
      refine List.map_congr_left fun p hp => ?_
      show _ = p.2.num.natAbs * (L / p.2.den) * (Nat.lcm L q.den / L)
      obtain ⟨c, hcc⟩ := hd p hp
      obtain ⟨e, he⟩ := d1
      have pp := den_pos' p.2
      have z1 : L / p.2.den = c := by rw [hcc]; exact Nat.mul_div_cancel_left c pp
      have z2 : Nat.lcm L q.den / L = e := by rw [he]; exact Nat.mul_div_cancel_left e hL
      have z3 : Nat.lcm L q.den / p.2.den = c * e := by
        rw [he, hcc, Nat.mul_assoc]
        exact Nat.mul_div_cancel_left _ pp
      rw [z1, z2, z3, Nat.mul_assoc]
    rw [e1, gl_mul, hg]
    have gp : 0 < Nat.gcd L q.den := Nat.gcd_pos_of_pos_left _ hL
    have eL : Nat.lcm L q.den / L = q.den / Nat.gcd L q.den := by
      have z : Nat.gcd L q.den * Nat.lcm L q.den = L * q.den := Nat.gcd_mul_lcm _ _
      obtain ⟨a, ha⟩ := d1
      obtain ⟨b, hb⟩ := Nat.gcd_dvd_right L q.den
      have hb' : q.den / Nat.gcd L q.den = b := by
        have : q.den / Nat.gcd L q.den = Nat.gcd L q.den * b / Nat.gcd L q.den := congrArg (· / Nat.gcd L q.den) hb
        rw [this]
        exact Nat.mul_div_cancel_left _ gp
      have ha' : Nat.lcm L q.den / L = a := by rw [ha]; exact Nat.mul_div_cancel_left _ hL
      rw [ha', hb']
      have y : Nat.gcd L q.den * (L * a) = L * (Nat.gcd L q.den * b) := by
        rw [← ha, z]
        exact congrArg (L * ·) hb
      have y2 : (L * Nat.gcd L q.den) * a = (L * Nat.gcd L q.den) * b := by
        rw [Nat.mul_assoc, Nat.mul_assoc, ← y, Nat.mul_left_comm]
      exact Nat.eq_of_mul_eq_mul_left (Nat.mul_pos hL gp) y2
    have eD : Nat.lcm L q.den / q.den = L / Nat.gcd L q.den := by
      have z : Nat.gcd L q.den * Nat.lcm L q.den = L * q.den := Nat.gcd_mul_lcm _ _
      obtain ⟨a, ha⟩ := d2
      obtain ⟨b, hb⟩ := Nat.gcd_dvd_left L q.den
      have hb' : L / Nat.gcd L q.den = b := by
        have : L / Nat.gcd L q.den = Nat.gcd L q.den * b / Nat.gcd L q.den := congrArg (· / Nat.gcd L q.den) hb
        rw [this]
        exact Nat.mul_div_cancel_left _ gp
      have ha' : Nat.lcm L q.den / q.den = a := by rw [ha]; exact Nat.mul_div_cancel_left _ dp
      rw [ha', hb']
      have y : Nat.gcd L q.den * (q.den * a) = (Nat.gcd L q.den * b) * q.den := by
        rw [← ha, z]
        exact congrArg (· * q.den) hb
      have y2 : (q.den * Nat.gcd L q.den) * a = (q.den * Nat.gcd L q.den) * b := by
        rw [Nat.mul_comm q.den, Nat.mul_assoc, y, Nat.mul_assoc, Nat.mul_assoc, Nat.mul_comm b]
      exact Nat.eq_of_mul_eq_mul_left (Nat.mul_pos dp gp) y2
    rw [eL, eD]
    have c1 : Nat.Coprime (q.den / Nat.gcd L q.den) (L / Nat.gcd L q.den) := (Nat.coprime_div_gcd_div_gcd gp).symm
    have c2 : Nat.Coprime (q.den / Nat.gcd L q.den) q.num.natAbs := (Nat.Coprime.coprime_dvd_right (Nat.div_dvd_of_dvd (Nat.gcd_dvd_right _ _)) cp).symm
    have c3 : Nat.Coprime (L / Nat.gcd L q.den) G := (Nat.Coprime.coprime_dvd_right (Nat.div_dvd_of_dvd (Nat.gcd_dvd_left _ _)) hc).symm
    rw [Nat.Coprime.gcd_mul_right_cancel _ (Nat.Coprime.mul_right c2 c1), Nat.Coprime.gcd_mul_right_cancel_right _ c3]
theorem norm_inv : ∀ (rest done : Cu) (L G : Nat), 0 < L → Nat.Coprime G L → (∀ p ∈ done, p.2.den ∣ L) → gl (done.map fun p => p.2.num.natAbs * (L / p.2.den)) = G →
    0 < lcmF L rest ∧ Nat.Coprime (gcdF G rest) (lcmF L rest) ∧ (∀ p ∈ done ++ rest, p.2.den ∣ lcmF L rest) ∧ gl ((done ++ rest).map fun p => p.2.num.natAbs * (lcmF L rest / p.2.den)) = gcdF G rest
  | [], done, L, G, h1, h2, h3, h4 => by
    rw [List.append_nil]
    exact ⟨h1, h2, h3, h4⟩
  | (k, q) :: rest, done, L, G, h1, h2, h3, h4 => by
    obtain ⟨g1, g2, g3, g4⟩ := norm_step (q := q) h1 h2 h3 h4 k
    have z := norm_inv rest (done ++ [(k, q)]) _ _ g1 g2 g3 g4
    rw [List.append_assoc] at z
    exact z
theorem norm_all (m : Cu) : 0 < lcmC m ∧ (∀ p ∈ m, p.2.den ∣ lcmC m) ∧ gl (m.map fun p => p.2.num.natAbs * (lcmC m / p.2.den)) = gcdC m := by
  obtain ⟨h1, _, h3, h4⟩ := norm_inv m [] 1 0 (by decide) (by decide) (fun p hp => nomatch hp) rfl
  exact ⟨h1, h3, h4⟩
theorem gcdF_dvd : ∀ (m : Cu) (a : Nat), gcdF a m ∣ a ∧ ∀ p ∈ m, gcdF a m ∣ p.2.num.natAbs
  | [], a => ⟨Nat.dvd_refl _, fun p h => nomatch h⟩
  | q :: m, a => by
    obtain ⟨h1, h2⟩ := gcdF_dvd m (Nat.gcd a q.2.num.natAbs)
    refine ⟨Nat.dvd_trans h1 (Nat.gcd_dvd_left _ _), fun p hp => ?_⟩
    rcases List.mem_cons.mp hp with rfl | hp
    · exact Nat.dvd_trans h1 (Nat.gcd_dvd_right _ _)
    · exact h2 p hp
theorem num_nz {q : Rat} (h : q ≠ 0) : q.num.natAbs ≠ 0 := fun z => h (Rat.num_eq_zero.mp (by omega))
theorem gcdC_pos {m : Cu} (h0 : m ≠ []) (nz : ∀ p ∈ m, p.2 ≠ 0) : 0 < gcdC m := by
  cases m with
  | nil => exact (h0 rfl).elim
  | cons p m =>
    have d := (gcdF_dvd (p :: m) 0).2 p List.mem_cons_self
    have n := num_nz (nz p List.mem_cons_self)
    exact Nat.pos_of_ne_zero fun z => n (Nat.eq_zero_of_zero_dvd (by rw [show gcdF 0 (p :: m) = 0 from z] at d; exact d))
theorem proF_lcm : ∀ (m : Cu) (a b : Nat), 0 < b → a ∣ b → lcmF a m ∣ proF b m ∧ 0 < proF b m
  | [], a, b, hb, h => ⟨h, hb⟩
  | p :: m, a, b, hb, h => proF_lcm m _ _ (Nat.mul_pos hb (den_pos' _)) (Nat.lcm_dvd (Nat.dvd_trans h (Nat.dvd_mul_right _ _)) (Nat.dvd_mul_left _ _))
/-- all at once: the number z of each sum, behind the program's way and the law's -/
theorem norm_of {m : Cu} (h0 : m ≠ []) (nz : ∀ p ∈ m, p.2 ≠ 0) : ∃ q : Nat, 0 < q ∧ proC m = lcmC m * q ∧ gl (m.map fun p => (p.2.num * ((proC m / p.2.den : Nat) : Int)).natAbs) = gcdC m * q ∧
    ∀ p ∈ m, ∃ z : Int, z ≠ 0 ∧ p.2 * ((lcmC m : Nat) / (gcdC m : Nat) : Rat) = (z : Rat) ∧ p.2.num * ((proC m / p.2.den : Nat) : Int) = ((gcdC m * q : Nat) : Int) * z ∧ 0 < proC m / p.2.den := by
  obtain ⟨h1, h2, h3⟩ := norm_all m
  obtain ⟨⟨q, hq⟩, hp⟩ := proF_lcm m 1 1 (by decide) (Nat.dvd_refl _)
  have gp := gcdC_pos h0 nz
  have qp : 0 < q := Nat.pos_of_ne_zero fun z => by
    rw [z, Nat.mul_zero] at hq
    omega
  have dv : ∀ p ∈ m, proC m / p.2.den = lcmC m / p.2.den * q := fun p hp => by
    obtain ⟨c, hc⟩ := h2 p hp
    have dp := den_pos' p.2
    have z1 : lcmC m / p.2.den = c := by rw [hc]; exact Nat.mul_div_cancel_left c dp
    rw [z1]
    have hq' : proF 1 m = p.2.den * c * q := by rw [hq, ← hc]
    show proF 1 m / p.2.den = _
    rw [hq', Nat.mul_assoc]
    exact Nat.mul_div_cancel_left _ dp
  refine ⟨q, qp, hq, ?_, fun p hp => ?_⟩
  · rw [← h3, ← gl_mul, List.map_map]
    refine congrArg gl (List.map_congr_left fun p hp => ?_)
    show (p.2.num * ((proC m / p.2.den : Nat) : Int)).natAbs = p.2.num.natAbs * (lcmC m / p.2.den) * q
    rw [Int.natAbs_mul, dv p hp, Nat.mul_assoc] <;> rfl
  · have dp := den_pos' p.2
    obtain ⟨c, hc⟩ := h2 p hp
    have z1 : lcmC m / p.2.den = c := by rw [hc]; exact Nat.mul_div_cancel_left c dp
    have cp : 0 < c := Nat.pos_of_ne_zero fun z => by
      rw [z, Nat.mul_zero] at hc
      omega
    have gd : gcdC m ∣ p.2.num.natAbs * c := by
      rw [← h3, ← z1]
      exact gl_dvd _ _ (List.mem_map.mpr ⟨p, hp, rfl⟩)
    have gd2 : ((gcdC m : Nat) : Int) ∣ p.2.num * (c : Int) := by
      rw [Int.ofNat_dvd_left, Int.natAbs_mul]
      exact gd
    obtain ⟨z, hz⟩ := gd2
    have zn : z ≠ 0 := fun e => by
      rw [e, Int.mul_zero] at hz
      rcases Int.mul_eq_zero.mp hz with h | h
      · exact nz p hp (Rat.num_eq_zero.mp h)
      · omega
    refine ⟨z, zn, ?_, ?_, ?_⟩
    · have e0 : p.2 = (p.2.num : Rat) / (p.2.den : Rat) := by rw [show ((p.2.den : Nat) : Rat) = (((p.2.den : Nat) : Int) : Rat) from rfl, ← Rat.divInt_eq_div, Rat.num_divInt_den]
      have hd : ((p.2.den : Nat) : Rat) ≠ 0 := by exact_mod_cast p.2.den_nz
      have hg : ((gcdC m : Nat) : Rat) ≠ 0 := by
        have : gcdC m ≠ 0 := by omega
        exact_mod_cast this
      have hL : ((lcmC m : Nat) : Rat) = (p.2.den : Rat) * (c : Rat) := by
        rw [hc]
        exact_mod_cast rfl
      have hz2 : (p.2.num : Rat) * (c : Rat) = ((gcdC m : Nat) : Rat) * (z : Rat) := by exact_mod_cast hz
      rw [hL]
      generalize p.2 = r at *
      generalize hx : ((gcdC m : Nat) : Rat) = gg at *
      rw [e0]
      grind
    · rw [dv p hp, z1]
      have : p.2.num * (((c * q : Nat) : Nat) : Int) = (p.2.num * (c : Int)) * (q : Int) := by
        rw [Int.natCast_mul, Int.mul_assoc]
      rw [this, hz, Int.natCast_mul, Int.mul_assoc, Int.mul_assoc, Int.mul_comm z]
    · rw [dv p hp, z1]
      exact Nat.mul_pos cp qp
/-! ### the greatest powers -/
def ltK (a b : K2) : Bool := ltI (ks a) (ks b)
theorem ltK_iff {a b : K2} : ltK a b = true ↔ a.1 < b.1 ∨ (a.1 = b.1 ∧ a.2 < b.2) := by
  unfold ltK ks ltI
  by_cases h : a.1 = b.1
  · rw [if_pos h]
    unfold ltI
    by_cases h2 : a.2 = b.2
    · rw [if_pos h2]
      constructor
      · intro z; cases z
      · intro z; omega
    · rw [if_neg h2, decide_eq_true_eq]
      omega
  · rw [if_neg h, decide_eq_true_eq]
    omega
def mxC : Cu → K2
  | [] => (0, 0)
  | p :: r => r.foldl (fun k q => if ltK k q.1 then q.1 else k) p.1
theorem mxT_of {f : K2 × Rat → D} {m : Cu} (h : m ≠ []) : mxT (m.map fun p => (ks p.1, f p)) = some (ks (mxC m)) := by
  cases m with
  | nil => exact (h rfl).elim
  | cons p r =>
    have go : ∀ (r : Cu) (k : K2), (r.map fun p => (ks p.1, f p)).foldl (fun k q => if ltI k q.1 then q.1 else k) (ks k) = ks (r.foldl (fun k q => if ltK k q.1 then q.1 else k) k) := by
      intro r
      induction r with
      | nil => intro k; rfl
      | cons q r ih =>
        intro k
        rw [List.map_cons, List.foldl_cons, List.foldl_cons]
        show List.foldl _ (if ltK k q.1 then ks q.1 else ks k) _ = _
        by_cases c : ltK k q.1 = true
        · rw [if_pos c, if_pos c]
          exact ih q.1
        · rw [if_neg c, if_neg c]
          exact ih k
    exact congrArg some (go r p.1)
theorem mxC_mem {m : Cu} (h : m ≠ []) : mxC m ∈ m.map (·.1) ∧ ∀ k ∈ m.map (·.1), ltK (mxC m) k = false := by
  cases m with
  | nil => exact (h rfl).elim
  | cons p r =>
    have go : ∀ (r : Cu) (k : K2), (r.foldl (fun k q => if ltK k q.1 then q.1 else k) k ∈ k :: r.map (·.1)) ∧ ∀ j ∈ k :: r.map (·.1), ltK (r.foldl (fun k q => if ltK k q.1 then q.1 else k) k) j = false := by
      intro r
      induction r with
      | nil =>
        intro k
        refine ⟨List.mem_cons_self, fun j hj => ?_⟩
        rw [List.map_nil, List.mem_singleton] at hj
        rw [hj]
        cases c : ltK k k with
        | false => exact c
        | true => have := ltK_iff.mp c; omega
      | cons q r ih =>
        intro k
        rw [List.foldl_cons, List.map_cons]
        by_cases c : ltK k q.1 = true
        · rw [if_pos c]
          obtain ⟨i1, i2⟩ := ih q.1
          refine ⟨List.mem_cons_of_mem _ i1, fun j hj => ?_⟩
          rcases List.mem_cons.mp hj with rfl | hj
          · cases d : ltK (r.foldl (fun k q => if ltK k q.1 then q.1 else k) q.1) j with
            | false => rfl
            | true =>
              have h1 := ltK_iff.mp c
              have h2 := ltK_iff.mp d
              have h3 := i2 q.1 List.mem_cons_self
              have h4 : ltK (r.foldl (fun k q => if ltK k q.1 then q.1 else k) q.1) q.1 = true := ltK_iff.mpr (by omega)
              rw [h3] at h4
              cases h4
          · exact i2 j hj
        · rw [if_neg c]
          obtain ⟨i1, i2⟩ := ih k
          refine ⟨?_, fun j hj => ?_⟩
          · rcases List.mem_cons.mp i1 with e | e
            · exact List.mem_cons.mpr (.inl e)
            · exact List.mem_cons_of_mem _ (List.mem_cons_of_mem _ e)
          · rcases List.mem_cons.mp hj with e | hj
            · rw [e]
              exact i2 k List.mem_cons_self
            · rcases List.mem_cons.mp hj with e | hj
              · rw [e]
                cases d : ltK (r.foldl (fun k q => if ltK k q.1 then q.1 else k) k) q.1 with
                | false => rfl
                | true =>
                  have h2 := ltK_iff.mp d
                  have h3 := i2 k List.mem_cons_self
                  have h5 : ¬ ltK (r.foldl (fun k q => if ltK k q.1 then q.1 else k) k) k = true := by rw [h3]; decide
                  have h6 : ¬ ltK k q.1 = true := c
                  rw [ltK_iff] at h5 h6
                  omega
              · exact i2 j (List.mem_cons_of_mem _ hj)
    exact go r p.1
theorem mulC_mx (m : Cu) (a : Rat) : mxC (mulC m a) = mxC m := by
  cases m with
  | nil => rfl
  | cons p r =>
    have go : ∀ (r : Cu) (k : K2), (mulC r a).foldl (fun k q => if ltK k q.1 then q.1 else k) k = r.foldl (fun k q => if ltK k q.1 then q.1 else k) k := by
      intro r
      induction r with
      | nil => intro k; rfl
      | cons q r ih =>
        intro k
        show List.foldl _ (if ltK k q.1 then q.1 else k) (mulC r a) = _
        rw [ih] <;> rfl
    exact go r p.1
/-- by how much the normal one is greater -/
def nf (m : Cu) : Rat := if co m (mxC m) < 0 then -((lcmC m : Nat) / (gcdC m : Nat) : Rat) else ((lcmC m : Nat) / (gcdC m : Nat) : Rat)
def nrm (m : Cu) : Cu := mulC m (nf m)
/-! ### sizes -/
theorem lcmF_bi {n : Nat} : ∀ (m : Cu) (a j : Nat), (∀ p ∈ m, Bt n p.2) → Bi j (a : Int) → Bi (j + n * m.length) ((lcmF a m : Nat) : Int)
  | [], a, j, _, h => h
  | p :: m, a, j, hp, h => by
    have b1 : Bi (j + n) ((Nat.lcm a p.2.den : Nat) : Int) := by
      have h2 := (hp p List.mem_cons_self).2
      unfold Bi at *
      have z : Nat.lcm a p.2.den ≤ a * p.2.den := by
        unfold Nat.lcm
        exact Nat.div_le_self _ _
      have y := Nat.mul_lt_mul'' (show a < 2 ^ j from h) (show p.2.den < 2 ^ n from h2)
      rw [← Nat.pow_add] at y
      show Nat.lcm a p.2.den < _
      omega
    have z := lcmF_bi m _ _ (fun q hq => hp q (List.mem_cons_of_mem _ hq)) b1
    rw [List.length_cons, Nat.mul_add, Nat.mul_one]
    exact z.mono (by omega)
theorem proF_bi {n : Nat} : ∀ (m : Cu) (a j : Nat), (∀ p ∈ m, Bt n p.2) → Bi j (a : Int) → Bi (j + n * m.length) ((proF a m : Nat) : Int)
  | [], a, j, _, h => h
  | p :: m, a, j, hp, h => by
    have b1 : Bi (j + n) ((a * p.2.den : Nat) : Int) := by
      rw [Int.natCast_mul]
      exact h.mul (hp p List.mem_cons_self).2
    have z := proF_bi m _ _ (fun q hq => hp q (List.mem_cons_of_mem _ hq)) b1
    rw [List.length_cons, Nat.mul_add, Nat.mul_one]
    exact z.mono (by omega)
theorem gcdF_bi {n : Nat} {m : Cu} (h0 : m ≠ []) (nz : ∀ p ∈ m, p.2 ≠ 0) (hp : ∀ p ∈ m, Bt n p.2) : Bi n ((gcdC m : Nat) : Int) := by
  cases m with
  | nil => exact (h0 rfl).elim
  | cons p m =>
    have d := (gcdF_dvd (p :: m) 0).2 p List.mem_cons_self
    have n1 := num_nz (nz p List.mem_cons_self)
    have b := (hp p List.mem_cons_self).1
    unfold Bi at *
    have z := Nat.le_of_dvd (Nat.pos_of_ne_zero n1) d
    show gcdF 0 (p :: m) < _
    omega
theorem gcdF_bi' {n : Nat} : ∀ (m : Cu) (a : Nat), (∀ p ∈ m, Bt n p.2) → Bi n (a : Int) → Bi n ((gcdF a m : Nat) : Int)
  | [], a, _, h => h
  | p :: m, a, hp, h => by
    refine gcdF_bi' m _ (fun q hq => hp q (List.mem_cons_of_mem _ hq)) ?_
    have b := (hp p List.mem_cons_self).1
    unfold Bi at *
    show Nat.gcd a p.2.num.natAbs < _
    by_cases z : a = 0
    · rw [z, Nat.gcd_zero_left]
      exact b
    · have := Nat.le_of_dvd (Nat.pos_of_ne_zero z) (Nat.gcd_dvd_left a p.2.num.natAbs)
      have h : a < 2 ^ n := h
      omega
end Hg
set_option Elab.async false
set_option linter.all false
set_option maxRecDepth 100000
set_option maxHeartbeats 400000
/-! Walks over a table's keys. -/
namespace Hg
open PySem
/-- a table of the same keys -/
def fv (f : K2 × Rat → D) (m : Cu) : Tb2 := m.map fun p => (ks p.1, f p)
theorem cv_fv (m : Cu) : cv m = fv (fun p => fr p.2) m := rfl
theorem fv_len (f : K2 × Rat → D) (m : Cu) : (fv f m).length = m.length := List.length_map _
theorem fv_keys (f : K2 × Rat → D) (m : Cu) : ((fv f m).map fun p => keyT p.1) = m.map fun p => keyT (ks p.1) := by
  unfold fv
  rw [List.map_map] <;> rfl
theorem fv_nd {f : K2 × Rat → D} {m : Cu} (n : Kd m) : Nd (fv f m) := by
  unfold Nd fv Kd at *
  rw [List.map_map]
  have e : (m.map ((·.1) ∘ fun p => (ks p.1, f p))) = (m.map (·.1)).map ks := by
    rw [List.map_map] <;> rfl
  rw [e]
  exact List.Pairwise.map _ (fun a b h z => h (ks_inj z)) n
theorem fv_lk {f : K2 × Rat → D} {m : Cu} (n : Kd m) {p : K2 × Rat} (h : p ∈ m) : lkT (fv f m) (ks p.1) = some (f p) :=
  lkT_mem (fv_nd n) (List.mem_map.mpr ⟨p, h, rfl⟩)
theorem ix_fv {f : K2 × Rat → D} {m : Cu} (n : Kd m) {p : K2 × Rat} (h : p ∈ m) : ixD (.dict (unT (fv f m))) (keyT (ks p.1)) = some (f p) := by
  rw [ix_un (tk_ks p.1), fv_lk n h]
theorem seq_fv (f : K2 × Rat → D) (m : Cu) : seqD (.dict (unT (fv f m))) = some (m.map fun p => keyT (ks p.1)) := by rw [seq_un, fv_keys]
theorem vals_fv (f : K2 × Rat → D) (m : Cu) : valsD (.dict (unT (fv f m))) = some (m.map f) := by
  rw [vals_un]
  unfold fv
  rw [List.map_map] <;> rfl
theorem max_fv {f : K2 × Rat → D} {m : Cu} (h : m ≠ []) : bfD .max [.dict (unT (fv f m))] = some (.sh (keyT (ks (mxC m)))) := by
  rw [max_un]
  unfold fv
  rw [mxT_of h] <;> rfl
theorem nil_fv (f : K2 × Rat → D) (m : Cu) : cmpD .Eq (.dict (unT (fv f m))) (.dict []) = some m.isEmpty := by
  rw [eq_emp]
  cases m <;> rfl
theorem dic_fv {f : K2 × Rat → D} {m : Cu} (n : Kd m) : bfD .dict [.list (m.map fun p => .tuple [keyT (ks p.1), f p])] = some (.ow (.dic (unT (fv f m)))) := by
  have e : (m.map fun p => PyData.tuple [keyT (ks p.1), f p]) = (fv f m).map fun p => PyData.tuple [keyT p.1, p.2] := by
    unfold fv
    rw [List.map_map] <;> rfl
  rw [dic_un e, mkT_nd (fv_nd n)]
theorem lc_keys {own : List Nat} {turn : D → M (Option D)} {src : M (List D)} {s s1 : S} {m : Cu} (g : K2 × Rat → D) (c : K2 × Rat → Bool) (hsrc : src s = .ok (m.map fun p => keyT (ks p.1)) s1) (hl : m.length < sizeLine) (hi : ∀ i ∈ own, i < s1.length) (hno : own.all (fun i => notOw (s1.getD i .un)) = true)
    (h : ∀ p ∈ m, ∃ s2, turn (keyT (ks p.1)) (wipeS s1 own) = .ok (if c p then some (.tuple [keyT (ks p.1), g p]) else none) s2 ∧ wipeS s2 own = wipeS s1 own) : lcM own turn src s = .ok (.ow (.lst ((m.filter c).map fun p => .tuple [keyT (ks p.1), g p]))) s1 := by
  have z := lcM_all (own := own) (turn := turn) (src := src) (f := fun p : K2 × Rat => keyT (ks p.1)) (o := fun p => if c p then some (PyData.tuple [keyT (ks p.1), g p]) else none) (xs := m) hsrc hl hi hno h
  rw [z]
  have e : (m.filterMap fun p => if c p then some (PyData.tuple [keyT (ks p.1), g p]) else none) = (m.filter c).map fun p => PyData.tuple [keyT (ks p.1), g p] := by
    have y := fm_if (p := fun p => c p = true) (f := fun p : K2 × Rat => PyData.tuple [keyT (ks p.1), g p]) (xs := m)
    have f : (fun p => decide (c p = true)) = c := by
      funext p
      cases c p <;> rfl
    rw [f] at y
    exact y
  rw [e]
theorem filter_true (m : Cu) : m.filter (fun _ => true) = m := List.filter_eq_self.mpr fun _ _ => rfl
/-- a walk that builds up a state by items -/
theorem fo_state {α : Type} {turn : D → M Fl} {f : α → D} (st : List α → S) : ∀ (rest done : List α), (∀ (d : List α) (x : α) (r : List α), done ++ rest = d ++ x :: r → turn (f x) (st d) = .ok .nx (st (d ++ [x]))) → foGo turn (rest.map f) (st done) = .ok .nx (st (done ++ rest))
  | [], done, _ => by rw [List.append_nil] <;> rfl
  | x :: rest, done, h => by
    rw [List.map_cons, foGo_c, h done x rest rfl]
    have z := fo_state (turn := turn) (f := f) st rest (done ++ [x]) fun d y r e => h d y r (by rw [← e, List.append_assoc] <;> rfl)
    rw [List.append_assoc] at z
    exact z
end Hg
set_option Elab.async false
set_option linter.all false
set_option maxRecDepth 100000
set_option maxHeartbeats 400000
/-! Tables of sums as functions of the powers: plain mathematics. -/
namespace Hg
open PySem
/-- all that stands at a key -/
def sumAt : Cu → K2 → Rat
  | [], _ => 0
  | p :: L, k => (if p.1 = k then p.2 else 0) + sumAt L k
theorem sumAt_app (L L2 : Cu) (k : K2) : sumAt (L ++ L2) k = sumAt L k + sumAt L2 k := by
  induction L with
  | nil => show sumAt L2 k = 0 + sumAt L2 k; grind
  | cons p L ih =>
    show (if p.1 = k then p.2 else 0) + sumAt (L ++ L2) k = (if p.1 = k then p.2 else 0) + sumAt L k + sumAt L2 k
    rw [ih]
    grind
theorem co_addL : ∀ (L m : Cu) (k : K2), co (addC m L) k = co m k + sumAt L k
  | [], m, k => by
    show co m k = co m k + 0
    grind
  | p :: L, m, k => by
    show co (addC (pad m p) L) k = co m k + ((if p.1 = k then p.2 else 0) + sumAt L k)
    rw [co_addL L (pad m p) k, co_pad]
    grind
theorem sumAt_none {m : Cu} {k : K2} (h : k ∉ m.map (·.1)) : sumAt m k = 0 := by
  induction m with
  | nil => rfl
  | cons p m ih =>
    rw [List.map_cons, List.mem_cons, not_or] at h
    show (if p.1 = k then p.2 else 0) + sumAt m k = 0
    rw [if_neg fun z => h.1 z.symm, ih h.2]
    grind
theorem co_sumAt {m : Cu} (n : Kd m) (k : K2) : co m k = sumAt m k := by
  induction m with
  | nil => rfl
  | cons p m ih =>
    have n2 : p.1 ∉ m.map (·.1) ∧ (m.map (·.1)).Nodup := List.nodup_cons.mp n
    rw [co_cons]
    show _ = (if p.1 = k then p.2 else 0) + sumAt m k
    by_cases e : p.1 = k
    · rw [if_pos e, if_pos e, sumAt_none (by rw [← e]; exact n2.1)]
      grind
    · rw [if_neg e, if_neg e, ih n2.2]
      grind
/-! ### alike as functions -/
structure Nz (m : Cu) : Prop where
  kd : Kd m
  nz : ∀ p ∈ m, p.2 ≠ 0
theorem Nz.wn {m : Cu} (n : Kd m) : Nz (Hg.wn m) := ⟨n.wn, wn_nz⟩
theorem Nz.mul {m : Cu} (n : Nz m) {a : Rat} (ha : a ≠ 0) : Nz (mulC m a) := ⟨n.kd.mul a, fun p hp => by
  obtain ⟨q, hq, rfl⟩ := List.mem_map.mp hp
  intro z
  rcases Rat.mul_eq_zero.mp z with z | z
  · exact n.nz q hq z
  · exact ha z⟩
theorem mem_co {m : Cu} (n : Nz m) {p : K2 × Rat} : p ∈ m ↔ p.2 ≠ 0 ∧ co m p.1 = p.2 := by
  constructor
  · intro h
    exact ⟨n.nz p h, co_mem n.kd h⟩
  · intro ⟨h1, h2⟩
    unfold co at h2
    cases e : lk m p.1 with
    | none =>
      rw [e] at h2
      exact (h1 h2.symm).elim
    | some v =>
      rw [e] at h2
      have h2 : v = p.2 := h2
      rw [h2] at e
      exact mem_lk e
theorem nd_pairs {m : Cu} (n : Kd m) : m.Nodup := by
  unfold Kd at n
  exact (List.pairwise_map.mp n).imp fun {a b} h z => h (congrArg Prod.fst z)
theorem perm_of {m q : Cu} (n : Nz m) (n2 : Nz q) (h : ∀ k, co m k = co q k) : m.Perm q := by
  refine (List.perm_ext_iff_of_nodup (nd_pairs n.kd) (nd_pairs n2.kd)).mpr fun p => ?_
  rw [mem_co n, mem_co n2, h]
theorem lk_same {m q : Cu} (n : Nz m) (n2 : Nz q) (h : ∀ k, co m k = co q k) {p : K2 × Rat} (hp : p ∈ q) : lk m p.1 = some p.2 :=
  lk_mem n.kd ((perm_of n n2 h).mem_iff.mpr hp)
theorem nil_of {m q : Cu} (n : Nz m) (n2 : Nz q) (h : ∀ k, co m k = co q k) : m = [] ↔ q = [] := by
  have p := (perm_of n n2 h).length_eq
  constructor
  · intro z
    rw [z] at p
    exact List.length_eq_zero_iff.mp p.symm
  · intro z
    rw [z] at p
    exact List.length_eq_zero_iff.mp p
theorem mxC_same {m q : Cu} (h0 : m ≠ []) (p : m.Perm q) : mxC m = mxC q := by
  have h1 : q ≠ [] := fun z => h0 (by
    have := p.length_eq
    rw [z] at this
    exact List.length_eq_zero_iff.mp this)
  obtain ⟨a1, a2⟩ := mxC_mem h0
  obtain ⟨b1, b2⟩ := mxC_mem h1
  have pk := p.map (fun x : K2 × Rat => x.1)
  have c1 := a2 _ (pk.mem_iff.mpr b1)
  have c2 := b2 _ (pk.mem_iff.mp a1)
  have d1 : ¬ ltK (mxC m) (mxC q) = true := by rw [c1]; decide
  have d2 : ¬ ltK (mxC q) (mxC m) = true := by rw [c2]; decide
  rw [ltK_iff] at d1 d2
  exact Prod.ext (by omega) (by omega)
theorem nf_same {m q : Cu} (n : Nz m) (n2 : Nz q) (h0 : m ≠ []) (h : ∀ k, co m k = co q k) : nf m = nf q := by
  have p := perm_of n n2 h
  have e1 : lcmC m = lcmC q := p.foldl_eq' (fun x _ y _ a => by rw [Nat.lcm_assoc, Nat.lcm_assoc, Nat.lcm_comm x.2.den]) 1
  have e2 : gcdC m = gcdC q := p.foldl_eq' (fun x _ y _ a => by rw [Nat.gcd_assoc, Nat.gcd_assoc, Nat.gcd_comm x.2.num.natAbs]) 0
  unfold nf
  rw [mxC_same h0 p, h, e1, e2]
theorem nrm_co {m q : Cu} (n : Nz m) (n2 : Nz q) (h0 : m ≠ []) (h : ∀ k, co m k = co q k) (k : K2) : co (nrm m) k = co (nrm q) k := by
  unfold nrm
  rw [co_mul, co_mul, h, nf_same n n2 h0 h]
/-! ### the normal one is the only one -/
theorem rat_num {x : Rat} {z : Int} (h : x = (z : Rat)) : x.num = z := by rw [h]; exact Rat.num_intCast z
theorem qf_ne {m : Cu} (h0 : m ≠ []) (nz : ∀ p ∈ m, p.2 ≠ 0) : (0 : Rat) < ((lcmC m : Nat) / (gcdC m : Nat) : Rat) := by
  have g := gcdC_pos h0 nz
  obtain ⟨l, _, _⟩ := norm_all m
  have l' : (0 : Rat) < ((lcmC m : Nat) : Rat) := by exact_mod_cast l
  have g' : (0 : Rat) < ((gcdC m : Nat) : Rat) := by exact_mod_cast g
  rw [Rat.div_def]
  exact Rat.mul_pos l' (Rat.inv_pos.mpr g')
theorem nf_ne0 {m : Cu} (h0 : m ≠ []) (nz : ∀ p ∈ m, p.2 ≠ 0) : nf m ≠ 0 := by
  have h := qf_ne h0 nz
  unfold nf
  split <;> grind
theorem nrm_lead {m : Cu} (n : Kd m) (h0 : m ≠ []) (nz : ∀ p ∈ m, p.2 ≠ 0) : 0 < co m (mxC m) * nf m := by
  have h := qf_ne h0 nz
  obtain ⟨mm, _⟩ := mxC_mem h0
  obtain ⟨pm, hpm, epm⟩ := List.mem_map.mp mm
  have cm : co m (mxC m) = pm.2 := by rw [← epm]; exact co_mem n hpm
  have c0 : co m (mxC m) ≠ 0 := by rw [cm]; exact nz pm hpm
  unfold nf
  generalize co m (mxC m) = c at *
  generalize ((lcmC m : Nat) / (gcdC m : Nat) : Rat) = f at *
  by_cases z : c < 0
  · rw [if_pos z]
    have y : (0 : Rat) < -c := by grind
    have w := Rat.mul_pos y h
    grind
  · rw [if_neg z]
    have y : (0 : Rat) < c := by grind
    exact Rat.mul_pos y h
theorem nrm_prim {m : Cu} (h0 : m ≠ []) (nz : ∀ p ∈ m, p.2 ≠ 0) : ∃ z : K2 × Rat → Int, (∀ p ∈ m, p.2 * nf m = (z p : Rat)) ∧ gl (m.map fun p => (z p).natAbs) = 1 := by
  obtain ⟨q, qp, _, hg, hz⟩ := norm_of h0 nz
  have gp := gcdC_pos h0 nz
  have gq : 0 < gcdC m * q := Nat.mul_pos gp qp
  let y : K2 × Rat → Int := fun p => (p.2 * ((lcmC m : Nat) / (gcdC m : Nat) : Rat)).num
  have hy : ∀ p ∈ m, p.2 * ((lcmC m : Nat) / (gcdC m : Nat) : Rat) = (y p : Rat) ∧ (p.2.num * ((proC m / p.2.den : Nat) : Int)).natAbs = (y p).natAbs * (gcdC m * q) := fun p hp => by
    obtain ⟨z, _, z1, z2, _⟩ := hz p hp
    have e : y p = z := rat_num z1
    rw [e]
    refine ⟨z1, ?_⟩
    rw [z2, Int.natAbs_mul, Int.natAbs_natCast, Nat.mul_comm]
  have e1 : (m.map fun p => (p.2.num * ((proC m / p.2.den : Nat) : Int)).natAbs) = ((m.map fun p => (y p).natAbs).map (· * (gcdC m * q))) := by
    rw [List.map_map]
    exact List.map_congr_left fun p hp => (hy p hp).2
  rw [e1, gl_mul] at hg
  have g1 : gl (m.map fun p => (y p).natAbs) = 1 := Nat.eq_of_mul_eq_mul_right gq (by rw [hg, Nat.one_mul])
  by_cases c : co m (mxC m) < 0
  · refine ⟨fun p => -(y p), fun p hp => ?_, ?_⟩
    · have z := (hy p hp).1
      unfold nf
      rw [if_pos c, Rat.intCast_neg, ← z]
      grind
    · rw [← g1]
      refine congrArg gl (List.map_congr_left fun p _ => ?_)
      exact Int.natAbs_neg _
  · refine ⟨y, fun p hp => ?_, g1⟩
    have z := (hy p hp).1
    unfold nf
    rw [if_neg c]
    exact z
theorem muld (a : Rat) : a * ((a.den : Int) : Rat) = ((a.num : Int) : Rat) := by
  have d : ((a.den : Int) : Rat) ≠ 0 := fun z => by
    have y := Rat.intCast_inj.mp (z.trans (show (0 : Rat) = ((0 : Int) : Rat) from rfl))
    have := a.den_nz
    omega
  have z := Rat.num_divInt_den a
  rw [Rat.divInt_eq_div] at z
  have y := Rat.div_mul_cancel (a := (a.num : Rat)) d
  rw [z] at y
  exact y
theorem prim_one {t : Rat} {m : Cu} {z y : K2 × Rat → Int} (h : ∀ p ∈ m, (y p : Rat) = t * (z p : Rat)) (g1 : gl (m.map fun p => (z p).natAbs) = 1) (g2 : gl (m.map fun p => (y p).natAbs) = 1) : t = 1 ∨ t = -1 := by
  have e : ∀ p ∈ m, (y p).natAbs * t.den = (z p).natAbs * t.num.natAbs := fun p hp => by
    have td : t * ((t.den : Int) : Rat) = ((t.num : Int) : Rat) := muld t
    have q : ((y p * (t.den : Int) : Int) : Rat) = ((z p * t.num : Int) : Rat) := by
      rw [Rat.intCast_mul, Rat.intCast_mul, h p hp, ← td]
      grind
    have q := congrArg Int.natAbs (Rat.intCast_inj.mp q)
    rw [Int.natAbs_mul, Int.natAbs_mul, Int.natAbs_natCast] at q
    exact q
  have l : ((m.map fun p => (y p).natAbs).map (· * t.den)) = ((m.map fun p => (z p).natAbs).map (· * t.num.natAbs)) := by
    rw [List.map_map, List.map_map]
    exact List.map_congr_left fun p hp => e p hp
  have l := congrArg gl l
  rw [gl_mul, gl_mul, g1, g2, Nat.one_mul, Nat.one_mul] at l
  have cp : Nat.gcd t.num.natAbs t.den = 1 := t.reduced
  rw [← l, Nat.gcd_self] at cp
  have tn : t.num.natAbs = 1 := by rw [← l, cp]
  have te : t = ((t.num : Int) : Rat) := by
    have := muld t
    rw [cp] at this
    have o : (((1 : Nat) : Int) : Rat) = 1 := rfl
    rw [o, Rat.mul_one] at this
    exact this
  rcases (show t.num = 1 ∨ t.num = -1 by omega) with z | z
  · left
    rw [te, z] <;> rfl
  · right
    rw [te, z] <;> rfl
theorem mulC_mulC (m : Cu) (a b : Rat) : mulC (mulC m a) b = mulC m (a * b) := by
  unfold mulC
  rw [List.map_map]
  refine List.map_congr_left fun p _ => ?_
  show (p.1, p.2 * a * b) = (p.1, p.2 * (a * b))
  rw [Rat.mul_assoc]
theorem nrm_scale {m : Cu} {a : Rat} (n : Nz m) (h0 : m ≠ []) (ha : a ≠ 0) : nrm (mulC m a) = nrm m := by
  have n2 := n.mul ha
  have h1 : mulC m a ≠ [] := fun z => h0 (by
    have := congrArg List.length z
    unfold mulC at this
    rw [List.length_map] at this
    exact List.length_eq_zero_iff.mp this)
  obtain ⟨z, hz, g1⟩ := nrm_prim h0 n.nz
  obtain ⟨y, hy, g2⟩ := nrm_prim h1 n2.nz
  have f0 := nf_ne0 h0 n.nz
  have l1 := nrm_lead n.kd h0 n.nz
  have l2 := nrm_lead n2.kd h1 n2.nz
  rw [mulC_mx, co_mul] at l2
  unfold nrm
  rw [mulC_mulC]
  have g2 : gl (m.map fun p => (y (p.1, p.2 * a)).natAbs) = 1 := by
    unfold mulC at g2
    rw [List.map_map] at g2
    exact g2
  have ff : nf m * (nf m)⁻¹ = 1 := Rat.mul_inv_cancel _ f0
  have key := prim_one (t := a * nf (mulC m a) * (nf m)⁻¹) (m := m) (z := z) (y := fun p => y (p.1, p.2 * a)) (fun p hp => by
    have e1 := hz p hp
    have e2 := hy (p.1, p.2 * a) (List.mem_map.mpr ⟨p, hp, rfl⟩)
    have e2 : p.2 * a * nf (mulC m a) = (y (p.1, p.2 * a) : Rat) := e2
    rw [← e1, ← e2]
    generalize nf (mulC m a) = f2 at *
    generalize nf m = f at *
    grind) g1 g2
  congr 1
  generalize nf (mulC m a) = f2 at *
  generalize hf : nf m = f at *
  generalize co m (mxC m) = c at *
  rcases key with k | k
  · have e : a * f2 = (a * f2 * f⁻¹) * f := by grind
    rw [e, k]
    grind
  · exfalso
    have e : a * f2 = (a * f2 * f⁻¹) * f := by grind
    rw [k] at e
    have l3 : 0 < c * (a * f2) := by
      have e3 : c * a * f2 = c * (a * f2) := by grind
      rwa [e3] at l2
    rw [e] at l3
    grind
theorem nrm_idem {m : Cu} (n : Nz m) (h0 : m ≠ []) : nrm (nrm m) = nrm m := nrm_scale n h0 (nf_ne0 h0 n.nz)
end Hg
set_option Elab.async false
set_option linter.all false
set_option maxRecDepth 100000
set_option maxHeartbeats 0
/-! The table's rows. -/
namespace Lw
open PySem Hg
theorem rr {f : Nat} {t : Tp} (k : Nat) (h : g.ds[f]? = some t) : (calAt g.pr (k + 1)).run f = runFd (calAt g.pr k) t.fd := run_at' k h
theorem io_is_whole {k : Nat} : (calAt g.pr k).io i_is_whole = [false] := io_at' k (t := ⟨f_is_whole, _, _, _⟩) rfl
theorem io_is_fraction {k : Nat} : (calAt g.pr k).io i_is_fraction = [false] := io_at' k (t := ⟨f_is_fraction, _, _, _⟩) rfl
theorem io_divisor_of {k : Nat} : (calAt g.pr k).io i_divisor_of = [false] := io_at' k (t := ⟨f_divisor_of, _, _, _⟩) rfl
theorem io_is_joint {k : Nat} : (calAt g.pr k).io i_is_joint = [false, false] := io_at' k (t := ⟨f_is_joint, _, _, _⟩) rfl
theorem io_is_above {k : Nat} : (calAt g.pr k).io i_is_above = [false] := io_at' k (t := ⟨f_is_above, _, _, _⟩) rfl
theorem io_are_joints {k : Nat} : (calAt g.pr k).io i_are_joints = [false, false, false] := io_at' k (t := ⟨f_are_joints, _, _, _⟩) rfl
theorem io_is_step {k : Nat} : (calAt g.pr k).io i_is_step = [false, false] := io_at' k (t := ⟨f_is_step, _, _, _⟩) rfl
theorem io_is_machine {k : Nat} : (calAt g.pr k).io i_is_machine = [false] := io_at' k (t := ⟨f_is_machine, _, _, _⟩) rfl
theorem io__law_cell_at {k : Nat} : (calAt g.pr k).io i__law_cell_at = [false, false] := io_at' k (t := ⟨f__law_cell_at, _, _, _⟩) rfl
theorem io__law_state {k : Nat} : (calAt g.pr k).io i__law_state = [false, false] := io_at' k (t := ⟨f__law_state, _, _, _⟩) rfl
theorem io__law_take {k : Nat} : (calAt g.pr k).io i__law_take = [true, false] := io_at' k (t := ⟨f__law_take, _, _, _⟩) rfl
theorem io__law_divisor {k : Nat} : (calAt g.pr k).io i__law_divisor = [false, false] := io_at' k (t := ⟨f__law_divisor, _, _, _⟩) rfl
theorem io__law_ratio {k : Nat} : (calAt g.pr k).io i__law_ratio = [false, false] := io_at' k (t := ⟨f__law_ratio, _, _, _⟩) rfl
theorem io__law_plus {k : Nat} : (calAt g.pr k).io i__law_plus = [false, false] := io_at' k (t := ⟨f__law_plus, _, _, _⟩) rfl
theorem io__law_minus {k : Nat} : (calAt g.pr k).io i__law_minus = [false, false] := io_at' k (t := ⟨f__law_minus, _, _, _⟩) rfl
theorem io__law_times {k : Nat} : (calAt g.pr k).io i__law_times = [false, false] := io_at' k (t := ⟨f__law_times, _, _, _⟩) rfl
theorem io__law_over {k : Nat} : (calAt g.pr k).io i__law_over = [false, false] := io_at' k (t := ⟨f__law_over, _, _, _⟩) rfl
theorem io__law_small {k : Nat} : (calAt g.pr k).io i__law_small = [true] := io_at' k (t := ⟨f__law_small, _, _, _⟩) rfl
theorem io__law_above {k : Nat} : (calAt g.pr k).io i__law_above = [true] := io_at' k (t := ⟨f__law_above, _, _, _⟩) rfl
theorem io__law_two_joints {k : Nat} : (calAt g.pr k).io i__law_two_joints = [true, false] := io_at' k (t := ⟨f__law_two_joints, _, _, _⟩) rfl
theorem io__law_next_step {k : Nat} : (calAt g.pr k).io i__law_next_step = [true, false] := io_at' k (t := ⟨f__law_next_step, _, _, _⟩) rfl
theorem io__law_machine {k : Nat} : (calAt g.pr k).io i__law_machine = [true] := io_at' k (t := ⟨f__law_machine, _, _, _⟩) rfl
theorem io__law_drives {k : Nat} : (calAt g.pr k).io i__law_drives = [true, false] := io_at' k (t := ⟨f__law_drives, _, _, _⟩) rfl
theorem io__law_bent_step {k : Nat} : (calAt g.pr k).io i__law_bent_step = [true, false, false] := io_at' k (t := ⟨f__law_bent_step, _, _, _⟩) rfl
theorem io__law_bent {k : Nat} : (calAt g.pr k).io i__law_bent = [true, false] := io_at' k (t := ⟨f__law_bent, _, _, _⟩) rfl
theorem io__law_is_fraction {k : Nat} : (calAt g.pr k).io i__law_is_fraction = [false] := io_at' k (t := ⟨f__law_is_fraction, _, _, _⟩) rfl
theorem io__law_joints {k : Nat} : (calAt g.pr k).io i__law_joints = [false, false] := io_at' k (t := ⟨f__law_joints, _, _, _⟩) rfl
theorem io__law_step_due {k : Nat} : (calAt g.pr k).io i__law_step_due = [false, false] := io_at' k (t := ⟨f__law_step_due, _, _, _⟩) rfl
theorem io__law_due {k : Nat} : (calAt g.pr k).io i__law_due = [false] := io_at' k (t := ⟨f__law_due, _, _, _⟩) rfl
theorem io_law {k : Nat} : (calAt g.pr k).io i_law = [false] := io_at' k (t := ⟨f_law, _, _, _⟩) rfl
theorem con_MOST_STEPS {k : Nat} : (calAt g.pr k).con "MOST_STEPS" = some (.int 7) := by rw [con_at']; rfl
def EV := And.intro @q_var (And.intro @q_int (And.intro @q_str (And.intro @q_bl (And.intro @q_non (And.intro @q_glo (And.intro @q_bin (And.intro @q_neg (And.intro @q_cmp (And.intro @q_chain (And.intro @q_and (And.intro @q_or (And.intro @q_not (And.intro @q_ife (And.intro @q_ix (And.intro @q_dget (And.intro @q_dtk (And.intro @q_valsS (And.intro @q_lset (And.intro @q_cget (And.intro @q_dix (And.intro @q_orv (And.intro @q_dicm (And.intro @ky0 (And.intro @ky1 (And.intro @ne_app (And.intro @q_dic (And.intro @ne_ok (And.intro @tr_non (And.intro @tr_int (And.intro @tr_lst (And.intro @q_sl (And.intro @q_rev (And.intro @q_tup (And.intro @q_lst (And.intro @q_call (And.intro @n_callN (And.intro @n_evT (And.intro @n_tmp (And.intro @n_isTv (And.intro @n_isT2 (And.intro @n_isTc (And.intro @n_aV0 (And.intro @n_aVd (And.intro @n_aVv (And.intro @n_hT0 (And.intro @n_hTt (And.intro @n_hTf (And.intro @n_scB (And.intro @n_scI (And.intro @n_scN (And.intro @n_scT (And.intro @n_scL (And.intro @n_scO (And.intro @n_let0 (And.intro @n_letD (And.intro @n_letV (And.intro @n_letG (And.intro @q_bf (And.intro @q_isi (And.intro @q_app (And.intro @q_ext (And.intro @q_pop (And.intro @q_ins (And.intro @q_an0 (And.intro @q_an1 (And.intro @q_or0 (And.intro @q_or1 (And.intro @q_ds0 (And.intro @q_ds1 (And.intro @q_os0 (And.intro @q_os1 (And.intro @q_as0 (And.intro @q_as1 (And.intro @q_seq (And.intro @q_rng (And.intro @q_zip (And.intro @q_enu (And.intro @q_rvd (And.intro @q_asgN (And.intro @q_asgT (And.intro @q_par (And.intro @q_par3 (And.intro @q_tr (And.intro @q_trN (And.intro @q_six (And.intro @q_exp (And.intro @q_ret (And.intro @q_ite (And.intro @q_rai (And.intro @q_nil (And.intro @q_cons (And.intro @q_ownO (And.intro @six_l (And.intro @six_d (And.intro @b_app (And.intro @b_ok (And.intro @b_bad (And.intro @b_err (And.intro @p_app (And.intro @p_bad (And.intro @l_some (And.intro @o_var (And.intro @f_app (And.intro @t_app (And.intro @d_sh (And.intro @d_ow (And.intro @r_d (And.intro @r_v (And.intro @bM_app (And.intro @a_t (And.intro @a_f (And.intro @rs0 (And.intro @rs1 (And.intro @nx_app (And.intro @o_int (And.intro @m_int (And.intro @o_str (And.intro @m_str (And.intro @o_bl (And.intro @m_bl (And.intro @o_non (And.intro @m_non (And.intro @o_glo (And.intro @m_glo (And.intro @o_bin (And.intro @m_bin (And.intro @o_neg (And.intro @m_neg (And.intro @o_cmp (And.intro @m_cmp (And.intro @o_chain (And.intro @m_chain (And.intro @o_and (And.intro @m_and (And.intro @o_or (And.intro @m_or (And.intro @o_not (And.intro @m_not (And.intro @o_ife (And.intro @m_ife (And.intro @o_ix (And.intro @m_ix (And.intro @o_dget (And.intro @m_dget (And.intro @o_dtk (And.intro @m_dtk (And.intro @o_lset (And.intro @m_lset (And.intro @o_cget (And.intro @m_cget (And.intro @o_sl (And.intro @m_sl (And.intro @o_orv (And.intro @m_orv (And.intro @o_dix (And.intro @m_dix (And.intro @o_dic (And.intro @m_dic (And.intro @o_tup (And.intro @m_tup (And.intro @o_lst (And.intro @m_lst (And.intro @o_call (And.intro @m_call (And.intro @o_bf (And.intro @m_bf (And.intro @o_isi (And.intro @m_isi (And.intro @o_lc (And.intro @m_lc (And.intro @o_lcl (And.intro @m_lcl (And.intro @o_pop (And.intro @m_pop (And.intro @o_rfd (And.intro @m_rfd (And.intro @m_var (And.intro @k_add (And.intro @k_sub (And.intro @k_mul (And.intro @k_div (And.intro @k_mod (And.intro @k_lt (And.intro @k_le (And.intro @k_gt (And.intro @k_ge (And.intro @k_isn (And.intro @k_nisn (And.intro @k_isb (And.intro @k_nisb (And.intro @k_rev (And.intro @k_eqi (And.intro @k_nei (And.intro @x1_0 (And.intro @x2_0 (And.intro @x2_1 (And.intro @x3_0 (And.intro @x3_1 (And.intro @x3_2 (And.intro @x4_0 (And.intro @x4_1 (And.intro @x4_2 (And.intro @x4_3 (And.intro @y2_0 (And.intro @y2_1 (And.intro @y3_0 (And.intro @y3_1 (And.intro @y3_2 (And.intro @n_abs (And.intro @n_int (And.intro @n_max (And.intro @n_min (And.intro @n_len (And.intro @n_lent (And.intro @n_tup (And.intro @n_all (And.intro @z0 (And.intro @z1 (And.intro @z2 (And.intro @z3 (And.intro @z4 (And.intro @v_app (And.intro @opV_app (And.intro @resV_app (And.intro @ioV_app (And.intro @set_app (And.intro @g0 (And.intro @g1 (And.intro @g2 (And.intro @gS (And.intro @st0 (And.intro @stS (And.intro @sz0 (And.intro @sz1 (And.intro @sz2 (And.intro @sz3 (And.intro @sz4 (And.intro @sz5 (And.intro @sz6 (And.intro @sz7 (And.intro @sz8 (And.intro @sz9 (And.intro @sz10 (And.intro @sz11 (And.intro @sz12 (And.intro @sz13 (And.intro @sz14 (And.intro @sz15 (And.intro @sz16 (And.intro @sz17 (And.intro @sz18 (And.intro @sz19 (And.intro @sz20 (And.intro @io_is_whole (And.intro @io_is_fraction (And.intro @io_divisor_of (And.intro @io_is_joint (And.intro @io_is_above (And.intro @io_are_joints (And.intro @io_is_step (And.intro @io_is_machine (And.intro @io__law_cell_at (And.intro @io__law_state (And.intro @io__law_take (And.intro @io__law_divisor (And.intro @io__law_ratio (And.intro @io__law_plus (And.intro @io__law_minus (And.intro @io__law_times (And.intro @io__law_over (And.intro @io__law_small (And.intro @io__law_above (And.intro @io__law_two_joints (And.intro @io__law_next_step (And.intro @io__law_machine (And.intro @io__law_drives (And.intro @io__law_bent_step (And.intro @io__law_bent (And.intro @io__law_is_fraction (And.intro @io__law_joints (And.intro @io__law_step_due (And.intro @io__law_due (And.intro @io_law (@con_MOST_STEPS))))))))))))))))))))))))))))))))))))))))))))))))))))))))))))))))))))))))))))))))))))))))))))))))))))))))))))))))))))))))))))))))))))))))))))))))))))))))))))))))))))))))))))))))))))))))))))))))))))))))))))))))))))))))))))))))))))))))))))))))))))))))))))))))))))))))))))))))))))))))))))
end Lw
set_option Elab.async false
set_option linter.all false
set_option maxRecDepth 100000
set_option maxHeartbeats 400000
/-! Fractions: what the text's defs give. -/
namespace Lw
open PySem Hg
abbrev C2 : List Bool := [false, false]
/-- a def's answer, nothing handed back -/
abbrev Rn (C : Cal) (i : Nat) (as : List Sl) (r : D) : Prop := C.run i as = .ok (.sh r) []
theorem gcd_loop (C : Cal) : ∀ (n : Nat) (a b : Nat), b ≤ n → evS C [] (.whl (.cmp .Gt (.var 1) (.int 0)) (.cons (.par 0 1 (.var 1) (.bin .Mod (.var 0) (.var 1))) .nil)) [.sh (.int a), .sh (.int b)] = .ok .nx [.sh (.int (a.gcd b : Nat)), .sh (.int 0)] := by
  intro n
  induction n with
  | zero =>
    intro a b h
    have : b = 0 := by omega
    subst this
    rw [q_whl, whM_f (s1 := [.sh (.int a), .sh (.int 0)])]
    · simp
    · simp only [EV, q_lcl, asgM, callM, callR, ioIx, argSls, argSl, ioSl, callE, putOuts, outsOf, goodArgs, ioAt, startS, Ob.val, List.set_cons_zero, List.set_cons_succ, List.length_cons, List.length_nil, Nat.reduceAdd, Nat.reduceSub, Nat.reduceLT, Nat.sub_self, List.replicate_zero, List.replicate_succ, List.cons_append, List.nil_append, List.append_nil, reduceIte, Option.map_some, Option.map_none, List.not_mem_nil, List.nodup_nil, if_true, if_false, Bool.false_eq_true, eq_self, or_self, or_false, false_or, Bool.not_true, Bool.not_false, List.map_cons, List.map_nil, decide_true, decide_false] <;> rfl
  | succ n ih =>
    intro a b h
    by_cases z : b = 0
    · subst z
      rw [q_whl, whM_f (s1 := [.sh (.int a), .sh (.int 0)])]
      · simp
      · simp only [EV, q_lcl, asgM, callM, callR, ioIx, argSls, argSl, ioSl, callE, putOuts, outsOf, goodArgs, ioAt, startS, Ob.val, List.set_cons_zero, List.set_cons_succ, List.length_cons, List.length_nil, Nat.reduceAdd, Nat.reduceSub, Nat.reduceLT, Nat.sub_self, List.replicate_zero, List.replicate_succ, List.cons_append, List.nil_append, List.append_nil, reduceIte, Option.map_some, Option.map_none, List.not_mem_nil, List.nodup_nil, if_true, if_false, Bool.false_eq_true, eq_self, or_self, or_false, false_or, Bool.not_true, Bool.not_false, List.map_cons, List.map_nil, decide_true, decide_false] <;> rfl
    · have hm : (b : Int) ≠ 0 := by omega
      have hp : decide ((0 : Int) < (b : Int)) = true := decide_eq_true (by omega)
      have e : (a : Int).fmod (b : Int) = ((a % b : Nat) : Int) := by
        rw [Int.fmod_eq_emod_of_nonneg _ (by omega)]
        rfl
      rw [q_whl, whM_t (s1 := [.sh (.int a), .sh (.int b)]) (s2 := [.sh (.int b), .sh (.int (a % b : Nat))]), ← q_whl, ih b (a % b) (by have := Nat.mod_lt a (show b > 0 by omega); omega)]
      · rw [Nat.gcd_comm a b, Nat.gcd_rec b a, Nat.gcd_comm]
      · simp only [EV, q_lcl, asgM, callM, callR, ioIx, argSls, argSl, ioSl, callE, putOuts, outsOf, goodArgs, ioAt, startS, Ob.val, List.set_cons_zero, List.set_cons_succ, List.length_cons, List.length_nil, Nat.reduceAdd, Nat.reduceSub, Nat.reduceLT, Nat.sub_self, List.replicate_zero, List.replicate_succ, List.cons_append, List.nil_append, List.append_nil, reduceIte, Option.map_some, Option.map_none, List.not_mem_nil, List.nodup_nil, if_true, if_false, Bool.false_eq_true, eq_self, or_self, or_false, false_or, Bool.not_true, Bool.not_false, List.map_cons, List.map_nil, decide_true, decide_false, hp]
      · simp only [EV, q_lcl, asgM, callM, callR, ioIx, argSls, argSl, ioSl, callE, putOuts, outsOf, goodArgs, ioAt, startS, Ob.val, List.set_cons_zero, List.set_cons_succ, List.length_cons, List.length_nil, Nat.reduceAdd, Nat.reduceSub, Nat.reduceLT, Nat.sub_self, List.replicate_zero, List.replicate_succ, List.cons_append, List.nil_append, List.append_nil, reduceIte, Option.map_some, Option.map_none, List.not_mem_nil, List.nodup_nil, if_true, if_false, Bool.false_eq_true, eq_self, or_self, or_false, false_or, Bool.not_true, Bool.not_false, List.map_cons, List.map_nil, decide_true, decide_false, k_mod hm, e]
/-- -1, 0, 1 -/
def sg (a : Rat) : Int := (if 0 < a.num then 1 else 0) - (if a.num < 0 then 1 else 0)
/-! ### roots -/
theorem root_loop (C : Cal) (n : Nat) (hn : n < 2 ^ 8000) : ∀ (m x : Nat), x ≤ m → 0 < x → n < (x + 1) * (x + 1) → x ≤ n → ∃ r : Nat, Rt n r ∧ evS C [] (.whl (.cmp .Lt (.var 2) (.var 1)) (.cons (.asg (.name 1) (.var 2)) (.cons (.asg (.name 2) (.bin .FloorDiv (.bin .Add (.var 1) (.bin .FloorDiv (.var 0) (.var 1))) (.int 2))) .nil)))
    [.sh (.int n), .sh (.int x), .sh (.int ((x + n / x) / 2 : Nat))] = .ok .nx [.sh (.int n), .sh (.int r), .sh (.int ((r + n / r) / 2 : Nat))] := by
  intro m
  induction m with
  | zero =>
    intro x h1 h2
    omega
  | succ m ih =>
    intro x h1 h2 h3 h4
    have nw := newton (n := n) h2
    by_cases c : (x + n / x) / 2 < x
    · have hy : 0 < (x + n / x) / 2 := by
        have z : 1 ≤ n / x := Nat.div_pos h4 h2
        omega
      obtain ⟨r, hr, e⟩ := ih ((x + n / x) / 2) (by omega) hy nw (by omega)
      refine ⟨r, hr, ?_⟩
      generalize hg : (x + n / x) / 2 = y at *
      have hp : decide ((y : Int) < (x : Int)) = true := decide_eq_true (by omega)
      have o1 : okDiv (y : Int) = true := okDiv_of (n := 8000) (by unfold Bi; omega) (by omega) (by decide)
      have o2 : okDiv (2 : Int) = true := by decide
      have e1 : (n : Int).fdiv (y : Int) = ((n / y : Nat) : Int) := by rw [Int.fdiv_eq_ediv_of_nonneg _ (by omega)] <;> rfl
      have e2 : ((y : Int) + ((n / y : Nat) : Int)).fdiv 2 = (((y + n / y) / 2 : Nat) : Int) := by rw [Int.fdiv_eq_ediv_of_nonneg _ (by omega)] <;> rfl
      rw [q_whl, whM_t (s1 := [.sh (.int n), .sh (.int x), .sh (.int y)]) (s2 := [.sh (.int n), .sh (.int y), .sh (.int ((y + n / y) / 2 : Nat))]), ← q_whl, e]
      · simp only [EV, q_lcl, asgM, callM, callR, ioIx, argSls, argSl, ioSl, callE, putOuts, outsOf, goodArgs, ioAt, startS, Ob.val, List.set_cons_zero, List.set_cons_succ, List.length_cons, List.length_nil, Nat.reduceAdd, Nat.reduceSub, Nat.reduceLT, Nat.sub_self, List.replicate_zero, List.replicate_succ, List.cons_append, List.nil_append, List.append_nil, reduceIte, Option.map_some, Option.map_none, List.not_mem_nil, List.nodup_nil, if_true, if_false, Bool.false_eq_true, eq_self, or_self, or_false, false_or, Bool.not_true, Bool.not_false, List.map_cons, List.map_nil, decide_true, decide_false, hp]
      · simp only [EV, q_lcl, asgM, callM, callR, ioIx, argSls, argSl, ioSl, callE, putOuts, outsOf, goodArgs, ioAt, startS, Ob.val, List.set_cons_zero, List.set_cons_succ, List.length_cons, List.length_nil, Nat.reduceAdd, Nat.reduceSub, Nat.reduceLT, Nat.sub_self, List.replicate_zero, List.replicate_succ, List.cons_append, List.nil_append, List.append_nil, reduceIte, Option.map_some, Option.map_none, List.not_mem_nil, List.nodup_nil, if_true, if_false, Bool.false_eq_true, eq_self, or_self, or_false, false_or, Bool.not_true, Bool.not_false, List.map_cons, List.map_nil, decide_true, decide_false, k_div o1, k_div o2, e1, e2]
    · refine ⟨x, ⟨?_, h3⟩, ?_⟩
      · have z : x ≤ n / x := by omega
        have := Nat.mul_le_of_le_div x x n z
        exact this
      · have hp : decide ((((x + n / x) / 2 : Nat) : Int) < (x : Int)) = false := decide_eq_false (by omega)
        rw [q_whl, whM_f (s1 := [.sh (.int n), .sh (.int x), .sh (.int ((x + n / x) / 2 : Nat))])]
        simp only [EV, q_lcl, asgM, callM, callR, ioIx, argSls, argSl, ioSl, callE, putOuts, outsOf, goodArgs, ioAt, startS, Ob.val, List.set_cons_zero, List.set_cons_succ, List.length_cons, List.length_nil, Nat.reduceAdd, Nat.reduceSub, Nat.reduceLT, Nat.sub_self, List.replicate_zero, List.replicate_succ, List.cons_append, List.nil_append, List.append_nil, reduceIte, Option.map_some, Option.map_none, List.not_mem_nil, List.nodup_nil, if_true, if_false, Bool.false_eq_true, eq_self, or_self, or_false, false_or, Bool.not_true, Bool.not_false, List.map_cons, List.map_nil, decide_true, decide_false, hp]
end Lw
set_option Elab.async false
set_option linter.all false
set_option maxRecDepth 100000
set_option maxHeartbeats 400000
/-! Numbers a + b * root d: what the text's defs give. -/
namespace Lw
open PySem Hg
theorem nat_sq {r : Int} (h : 0 ≤ r) : r * r = ((r.toNat * r.toNat : Nat) : Int) := by
  obtain ⟨n, rfl⟩ := Int.eq_ofNat_of_zero_le h
  simp
theorem Bi.nat {n : Nat} {i : Int} (h : Bi n i) (h0 : 0 ≤ i) : i.toNat < 2 ^ n := by
  unfold Bi at h
  omega
/-- a + b * root d -/
def rn (d : Rat) (p : Rat × Rat) : D := .tuple [fr p.1, fr (p.2 * ab p.2 * d)]
/-- small parts -/
def Bp (n : Nat) (p : Rat × Rat) : Prop := Bt n p.1 ∧ Bt n p.2
structure Un (d : Rat) : Prop where
  pos : 0 < d
  bt : Bt 10 d
theorem ab_nn (a : Rat) : 0 ≤ ab a := by
  unfold ab
  simp only [num_neg_iff]
  grind
theorem ab_zero {a : Rat} (h : ab a = 0) : a = 0 := by
  unfold ab at h
  split at h <;> grind
theorem und_zero {d b : Rat} (u : 0 < d) : b * ab b * d = 0 ↔ b = 0 := by
  constructor
  · intro h
    rcases Rat.mul_eq_zero.mp h with h | h
    · rcases Rat.mul_eq_zero.mp h with h | h
      · exact h
      · exact ab_zero h
    · grind
  · intro h
    subst h
    grind
theorem Un.b {d : Rat} (u : Un d) {n : Nat} {b : Rat} (h : Bt n b) : Bt (n + n + 10) (b * ab b * d) := (h.mul h.ab).mul u.bt
theorem sg_pos {x : Rat} (h : 0 < x) : sg x = 1 := by
  have h1 : ¬ x.num < 0 := fun z => absurd (num_neg_iff.mp z) (by grind)
  have h2 : 0 < x.num := by
    rcases Int.lt_trichotomy x.num 0 with z | z | z
    · exact absurd z h1
    · exact absurd (Rat.num_eq_zero.mp z) (by grind)
    · exact z
  unfold sg
  rw [if_pos h2, if_neg h1]
  rfl
theorem sg_neg {x : Rat} (h : x < 0) : sg x = -1 := by
  have h1 : x.num < 0 := num_neg_iff.mpr h
  unfold sg
  rw [if_pos h1, if_neg (by omega)]
  rfl
theorem ab_pos {a : Rat} (h : 0 < a) : ab a = a := by
  unfold ab
  simp only [num_neg_iff]
  grind
theorem ab_neg {a : Rat} (h : a < 0) : ab a = -a := by
  unfold ab
  simp only [num_neg_iff]
  grind
theorem un_pos {d a : Rat} (u : 0 < d) (h : 0 < a) : 0 < a * ab a * d := by
  rw [ab_pos h]
  exact Rat.mul_pos (Rat.mul_pos h h) u
theorem un_neg {d a : Rat} (u : 0 < d) (h : a < 0) : a * ab a * d < 0 := by
  rw [ab_neg h]
  have z := Rat.mul_pos (Rat.mul_pos (show 0 < -a by grind) (show 0 < -a by grind)) u
  grind
theorem ne_cases {a : Rat} (h : a ≠ 0) : 0 < a ∨ a < 0 := by grind
theorem sg_un {d a b : Rat} (u : 0 < d) (ha : a ≠ 0) (hb : b ≠ 0) : (sg (a * ab a * d) * sg (b * ab b * d) = 1 ∧ ab (b / a) = b / a) ∨ (sg (a * ab a * d) * sg (b * ab b * d) = -1 ∧ ab (b / a) = -(b / a)) := by
  have h := ab_mul (b / a) a
  have e : b / a * a = b := by grind
  rw [e] at h
  rcases ne_cases ha with ha' | ha' <;> rcases ne_cases hb with hb' | hb'
  · rw [sg_pos (un_pos u ha'), sg_pos (un_pos u hb')]
    rw [ab_pos ha', ab_pos hb'] at h
    exact .inl ⟨rfl, by grind⟩
  · rw [sg_pos (un_pos u ha'), sg_neg (un_neg u hb')]
    rw [ab_pos ha', ab_neg hb'] at h
    exact .inr ⟨rfl, by grind⟩
  · rw [sg_neg (un_neg u ha'), sg_pos (un_pos u hb')]
    rw [ab_neg ha', ab_pos hb'] at h
    exact .inr ⟨rfl, by grind⟩
  · rw [sg_neg (un_neg u ha'), sg_neg (un_neg u hb')]
    rw [ab_neg ha', ab_neg hb'] at h
    exact .inl ⟨rfl, by grind⟩
theorem ab_un {d b : Rat} (u : 0 < d) : ab (b * ab b * d) = ab b * ab b * d := by
  rw [ab_mul, ab_mul, ab_pos u]
  congr 2
  have := ab_nn b
  by_cases h : ab b = 0
  · rw [h] <;> rfl
  · exact ab_pos (by grind)
theorem over_un {d a b : Rat} (u : 0 < d) (ha : a ≠ 0) : ab (b * ab b * d) / ab (a * ab a * d) = ab (b / a) * ab (b / a) := by
  rw [ab_un u, ab_un u, ab_sq, ab_sq, ab_sq]
  grind
end Lw
set_option Elab.async false
set_option linter.all false
set_option maxRecDepth 100000
set_option maxHeartbeats 400000
/-! Numbers a + b * root d: sums, products. -/
namespace Lw
open PySem Hg
def pa (p q : Rat × Rat) : Rat × Rat := (p.1 + q.1, p.2 + q.2)
def pn (p : Rat × Rat) : Rat × Rat := (-p.1, -p.2)
def ps (p q : Rat × Rat) : Rat × Rat := (p.1 - q.1, p.2 - q.2)
def pt (d : Rat) (p q : Rat × Rat) : Rat × Rat := (p.1 * q.1 + p.2 * q.2 * d, p.1 * q.2 + p.2 * q.1)
theorem und_mul {d a b : Rat} : a * ab a * (b * ab b * d) = (a * b) * ab (a * b) * d := by
  rw [ab_mul]
  grind
end Lw
set_option Elab.async false
set_option linter.all false
set_option maxRecDepth 100000
set_option maxHeartbeats 400000
/-! Numbers, points as data. -/
namespace Lw
open PySem Hg
abbrev Nu : Type := Rat × Rat
abbrev Po : Type := Nu × Nu
def pd (d : Rat) (p : Po) : D := .tuple [rn d p.1, rn d p.2]
def Bo (n : Nat) (p : Po) : Prop := Bp n p.1 ∧ Bp n p.2
end Lw
set_option Elab.async false
set_option linter.all false
set_option maxRecDepth 100000
set_option maxHeartbeats 400000
/-! Points: what the text's defs give. -/
namespace Lw
open PySem Hg
/-- those that are rooted -/
def rt (ns : List Nu) : List Nu := ns.filter fun n => decide (n.2 ≠ 0)
abbrev rooted (d : Rat) (ns : List Nu) : List D := (rt ns).map (rn d)
theorem rt_len (ns : List Nu) : (rt ns).length ≤ ns.length := List.length_filter_le _ _
theorem rt_bq {n : Nat} {ps : List Po} (hb : ∀ p ∈ ps, Bt n p.1.2 ∧ Bt n p.2.2) : ∀ m ∈ ps.flatMap (fun p => rt [p.1, p.2]), Bt n m.2 := fun m hm => by
  obtain ⟨p, hp, z⟩ := List.mem_flatMap.mp hm
  have z := (List.mem_filter.mp z).1
  rcases List.mem_cons.mp z with e | z
  · rw [e]
    exact (hb p hp).1
  · rw [List.mem_singleton.mp z]
    exact (hb p hp).2
theorem rt_bp {n : Nat} {ps : List Po} (hb : ∀ p ∈ ps, Bo n p) : ∀ m ∈ ps.flatMap (fun p => rt [p.1, p.2]), Bp n m := fun m hm => by
  obtain ⟨p, hp, z⟩ := List.mem_flatMap.mp hm
  have z := (List.mem_filter.mp z).1
  rcases List.mem_cons.mp z with e | z
  · rw [e]
    exact (hb p hp).1
  · rw [List.mem_singleton.mp z]
    exact (hb p hp).2
end Lw
set_option Elab.async false
set_option linter.all false
set_option maxRecDepth 100000
set_option maxHeartbeats 400000
/-! Points: ways, likes. -/
namespace Lw
open PySem Hg
def wy (p q : Po) : Po := (ps q.1 p.1, ps q.2 p.2)
def sq (d : Rat) (w : Po) : Nu := pa (pt d w.1 w.1) (pt d w.2 w.2)
def tu (d : Rat) (w : Po) (a l : Rat) : Po := (ps (pt d (a, 0) w.1) (pt d (l, 0) w.2), pa (pt d (l, 0) w.1) (pt d (a, 0) w.2))
def go (p w : Po) : Po := (pa p.1 w.1, pa p.2 w.2)
theorem Bp.mono {n m : Nat} {p : Nu} (h : Bp n p) (l : n ≤ m) : Bp m p := ⟨h.1.mono l, h.2.mono l⟩
theorem Bo.mono {n m : Nat} {p : Po} (h : Bo n p) (l : n ≤ m) : Bo m p := ⟨h.1.mono l, h.2.mono l⟩
theorem Bp.pa {n m : Nat} {p q : Nu} (h : Bp n p) (h2 : Bp m q) : Bp (n + m + 1) (Lw.pa p q) := ⟨h.1.add h2.1, h.2.add h2.2⟩
theorem Bp.ps {n m : Nat} {p q : Nu} (h : Bp n p) (h2 : Bp m q) : Bp (n + m + 1) (Lw.ps p q) := ⟨h.1.sub h2.1, h.2.sub h2.2⟩
theorem Bp.pt {n m : Nat} {d : Rat} (u : Un d) {p q : Nu} (h : Bp n p) (h2 : Bp m q) : Bp (2 * n + 2 * m + (10 + 1)) (Lw.pt d p q) :=
  ⟨((h.1.mul h2.1).add ((h.2.mul h2.2).mul u.bt)).mono (by omega), ((h.1.mul h2.2).add (h.2.mul h2.1)).mono (by omega)⟩
theorem Bt.zero {n : Nat} (h : n ≠ 0) : Bt n (0 : Rat) := Bt.nat (i := 0) h (Nat.two_pow_pos n)
theorem rn_plain (d a : Rat) : rn d (a, 0) = .tuple [fr a, fr 0] := by
  unfold rn
  have e : (0 : Rat) * ab 0 * d = 0 := by grind
  rw [e]
def li (d : Rat) (p q : Po) (a l : Rat) : Po := go p (tu d (wy p q) a l)
end Lw
set_option Elab.async false
set_option linter.all false
set_option maxRecDepth 100000
set_option maxHeartbeats 400000
/-! What the law reckons itself. -/
namespace Lw
open PySem Hg
theorem r_ldivisor {k : Nat} (h : 1 ≤ k) (a b : Int) : (calAt g.pr k).run i__law_divisor [.sh (.int a), .sh (.int b)] = .ok (.sh (.int (a.natAbs.gcd b.natAbs : Nat))) [] := by
  obtain ⟨k, rfl⟩ := Nat.exists_eq_add_of_le' (show 1 ≤ k by omega)
  rw [rr k (t := ⟨f__law_divisor, _, _, _⟩) rfl]
  have ea : ∀ i : Int, (if i < 0 then -i else i) = ((i.natAbs : Nat) : Int) := fun i => by split <;> omega
  simp only [runFd, f__law_divisor, EV, q_lcl, asgM, callM, callR, ioIx, argSls, argSl, ioSl, callE, putOuts, outsOf, goodArgs, ioAt, startS, Ob.val, List.set_cons_zero, List.set_cons_succ, List.length_cons, List.length_nil, Nat.reduceAdd, Nat.reduceSub, Nat.reduceLT, Nat.sub_self, List.replicate_zero, List.replicate_succ, List.cons_append, List.nil_append, List.append_nil, reduceIte, Option.map_some, Option.map_none, List.not_mem_nil, List.nodup_nil, if_true, if_false, Bool.false_eq_true, eq_self, or_self, or_false, false_or, Bool.not_true, Bool.not_false, List.map_cons, List.map_nil, decide_true, decide_false, ea, gcd_loop _ b.natAbs a.natAbs b.natAbs (Nat.le_refl _)]
theorem r_lratio {k : Nat} (h : 2 ≤ k) {a b : Int} (hb : b ≠ 0) (nb : Bi 8000 b) : (calAt g.pr k).run i__law_ratio [.sh (.int a), .sh (.int b)] = .ok (.sh (fr (Rat.divInt a b))) [] := by
  obtain ⟨k, rfl⟩ := Nat.exists_eq_add_of_le' (show 1 ≤ k by omega)
  rw [rr k (t := ⟨f__law_ratio, _, _, _⟩) rfl]
  obtain ⟨e1, e2⟩ := div_num (a := a) hb
  have rd := r_ldivisor (k := k) (by omega) a b
  have ok := okDiv_of (byOf_bi (a := a) hb nb) (byOf_ne hb) (by decide)
  unfold fr
  rw [← e1, ← e2]
  unfold byOf at ok ⊢
  by_cases n : b < 0
  · have np : decide (b < 0) = true := decide_eq_true n
    rw [if_pos n] at ok ⊢
    simp only [runFd, f__law_ratio, EV, q_lcl, asgM, callM, callR, ioIx, argSls, argSl, ioSl, callE, putOuts, outsOf, goodArgs, ioAt, startS, Ob.val, List.set_cons_zero, List.set_cons_succ, List.length_cons, List.length_nil, Nat.reduceAdd, Nat.reduceSub, Nat.reduceLT, Nat.sub_self, List.replicate_zero, List.replicate_succ, List.cons_append, List.nil_append, List.append_nil, reduceIte, Option.map_some, Option.map_none, List.not_mem_nil, List.nodup_nil, if_true, if_false, Bool.false_eq_true, eq_self, or_self, or_false, false_or, Bool.not_true, Bool.not_false, List.map_cons, List.map_nil, decide_true, decide_false, rd, np, k_div ok]
  · have np : decide (b < 0) = false := decide_eq_false n
    rw [if_neg n] at ok ⊢
    simp only [runFd, f__law_ratio, EV, q_lcl, asgM, callM, callR, ioIx, argSls, argSl, ioSl, callE, putOuts, outsOf, goodArgs, ioAt, startS, Ob.val, List.set_cons_zero, List.set_cons_succ, List.length_cons, List.length_nil, Nat.reduceAdd, Nat.reduceSub, Nat.reduceLT, Nat.sub_self, List.replicate_zero, List.replicate_succ, List.cons_append, List.nil_append, List.append_nil, reduceIte, Option.map_some, Option.map_none, List.not_mem_nil, List.nodup_nil, if_true, if_false, Bool.false_eq_true, eq_self, or_self, or_false, false_or, Bool.not_true, Bool.not_false, List.map_cons, List.map_nil, decide_true, decide_false, rd, np, k_div ok]
theorem r_lplus {k : Nat} (h : 3 ≤ k) {a b : Rat} (ha : Bt 3900 a) (hb : Bt 3900 b) : (calAt g.pr k).run i__law_plus [.sh (fr a), .sh (fr b)] = .ok (.sh (fr (a + b))) [] := by
  obtain ⟨k, rfl⟩ := Nat.exists_eq_add_of_le' (show 1 ≤ k by omega)
  rw [rr k (t := ⟨f__law_plus, _, _, _⟩) rfl]
  rw [rat_add]
  have m1 := okMul_of ha.1 hb.2 (by decide)
  have m2 := okMul_of hb.1 ha.2 (by decide)
  have m3 := okMul_of ha.2 hb.2 (by decide)
  have rd := r_lratio (k := k) (by omega) (a := a.num * b.den + b.num * a.den) (Int.mul_ne_zero (den_ne a) (den_ne b)) ((ha.2.mul hb.2).mono (by decide))
  simp only [runFd, f__law_plus, fr, EV, q_lcl, asgM, callM, callR, ioIx, argSls, argSl, ioSl, callE, putOuts, outsOf, goodArgs, ioAt, startS, Ob.val, List.set_cons_zero, List.set_cons_succ, List.length_cons, List.length_nil, Nat.reduceAdd, Nat.reduceSub, Nat.reduceLT, Nat.sub_self, List.replicate_zero, List.replicate_succ, List.cons_append, List.nil_append, List.append_nil, reduceIte, Option.map_some, Option.map_none, List.not_mem_nil, List.nodup_nil, if_true, if_false, Bool.false_eq_true, eq_self, or_self, or_false, false_or, Bool.not_true, Bool.not_false, List.map_cons, List.map_nil, decide_true, decide_false, k_mul m1, k_mul m2, k_mul m3, rd]
theorem r_lminus {k : Nat} (h : 3 ≤ k) {a b : Rat} (ha : Bt 3900 a) (hb : Bt 3900 b) : (calAt g.pr k).run i__law_minus [.sh (fr a), .sh (fr b)] = .ok (.sh (fr (a - b))) [] := by
  obtain ⟨k, rfl⟩ := Nat.exists_eq_add_of_le' (show 1 ≤ k by omega)
  rw [rr k (t := ⟨f__law_minus, _, _, _⟩) rfl]
  rw [rat_sub]
  have m1 := okMul_of ha.1 hb.2 (by decide)
  have m2 := okMul_of hb.1 ha.2 (by decide)
  have m3 := okMul_of ha.2 hb.2 (by decide)
  have rd := r_lratio (k := k) (by omega) (a := a.num * b.den - b.num * a.den) (Int.mul_ne_zero (den_ne a) (den_ne b)) ((ha.2.mul hb.2).mono (by decide))
  simp only [runFd, f__law_minus, fr, EV, q_lcl, asgM, callM, callR, ioIx, argSls, argSl, ioSl, callE, putOuts, outsOf, goodArgs, ioAt, startS, Ob.val, List.set_cons_zero, List.set_cons_succ, List.length_cons, List.length_nil, Nat.reduceAdd, Nat.reduceSub, Nat.reduceLT, Nat.sub_self, List.replicate_zero, List.replicate_succ, List.cons_append, List.nil_append, List.append_nil, reduceIte, Option.map_some, Option.map_none, List.not_mem_nil, List.nodup_nil, if_true, if_false, Bool.false_eq_true, eq_self, or_self, or_false, false_or, Bool.not_true, Bool.not_false, List.map_cons, List.map_nil, decide_true, decide_false, k_mul m1, k_mul m2, k_mul m3, rd]
theorem r_ltimes {k : Nat} (h : 3 ≤ k) {a b : Rat} (ha : Bt 3900 a) (hb : Bt 3900 b) : (calAt g.pr k).run i__law_times [.sh (fr a), .sh (fr b)] = .ok (.sh (fr (a * b))) [] := by
  obtain ⟨k, rfl⟩ := Nat.exists_eq_add_of_le' (show 1 ≤ k by omega)
  rw [rr k (t := ⟨f__law_times, _, _, _⟩) rfl]
  rw [rat_mul]
  have m1 := okMul_of ha.1 hb.1 (by decide)
  have m3 := okMul_of ha.2 hb.2 (by decide)
  have rd := r_lratio (k := k) (by omega) (a := a.num * b.num) (Int.mul_ne_zero (den_ne a) (den_ne b)) ((ha.2.mul hb.2).mono (by decide))
  simp only [runFd, f__law_times, fr, EV, q_lcl, asgM, callM, callR, ioIx, argSls, argSl, ioSl, callE, putOuts, outsOf, goodArgs, ioAt, startS, Ob.val, List.set_cons_zero, List.set_cons_succ, List.length_cons, List.length_nil, Nat.reduceAdd, Nat.reduceSub, Nat.reduceLT, Nat.sub_self, List.replicate_zero, List.replicate_succ, List.cons_append, List.nil_append, List.append_nil, reduceIte, Option.map_some, Option.map_none, List.not_mem_nil, List.nodup_nil, if_true, if_false, Bool.false_eq_true, eq_self, or_self, or_false, false_or, Bool.not_true, Bool.not_false, List.map_cons, List.map_nil, decide_true, decide_false, k_mul m1, k_mul m3, rd]
/-- a pair of fractions -/
def pr (p : Nu) : D := .tuple [fr p.1, fr p.2]
def pp (p : Po) : D := .tuple [pr p.1, pr p.2]
theorem un_div (b : Rat) (u : Nat) : Rat.divInt (b.num * ((if b.num < 0 then -b.num else b.num) * (u : Int))) ((b.den : Int) * (b.den : Int)) = b * ab b * (u : Rat) := by
  have e1 : Rat.divInt ((if b.num < 0 then -b.num else b.num) * (u : Int)) (b.den : Int) = ab b * (u : Rat) := by
    have z : ab b = Rat.divInt (if b.num < 0 then -b.num else b.num) (b.den : Int) := by
      unfold ab
      split
      · rw [← Rat.num_divInt_den (-b)] <;> rfl
      · rw [Rat.num_divInt_den]
    have z2 : ((u : Rat)) = Rat.divInt (u : Int) 1 := (Rat.num_divInt_den (u : Rat)).symm
    rw [z, z2, Rat.divInt_mul_divInt, Int.mul_one]
  rw [Rat.mul_assoc, ← e1]
  have z := Rat.divInt_mul_divInt b.num ((if b.num < 0 then -b.num else b.num) * (u : Int)) (d₁ := b.den) (d₂ := b.den)
  rw [Rat.num_divInt_den] at z
  exact z.symm
theorem Un.of {u : Nat} (h0 : 0 < u) (h : u < 2 ^ 10) : Un (u : Rat) := ⟨by
  have : (0 : Rat) < ((u : Nat) : Rat) := by exact_mod_cast h0
  exact this, (Bt.nat (n := 10) (by decide) h).mono (by decide)⟩
end Lw
set_option Elab.async false
set_option linter.all false
set_option maxRecDepth 100000
set_option maxHeartbeats 400000
/-! What the law draws. -/
namespace Lw
open PySem Hg
def Iv (s : Int) (b : Bool) : Prop := b = false → 0 ≤ s ∧ s < 2147483647
abbrev so (s : Int) (b : Bool) : Ob := .lst [.int s, .bool b]
theorem b31 {i : Int} (h0 : 0 ≤ i) (h : i < 2147483648) : Bi 31 i := by
  unfold Bi
  omega
theorem r_take {k : Nat} (h : 1 ≤ k) {s : Int} {b : Bool} (iv : Iv s b) {m : Int} (hm : 0 < m) (bm : m < 2147483648) :
    ∃ r s', 0 ≤ r ∧ r < m ∧ Iv s' b ∧ (calAt g.pr k).run i__law_take [.ow (so s b), .sh (.int m)] = .ok (.sh (.int r)) [so s' b] := by
  obtain ⟨k, rfl⟩ := Nat.exists_eq_add_of_le' (show 1 ≤ k by omega)
  rw [rr k (t := ⟨f__law_take, _, _, _⟩) rfl]
  have m0 : m ≠ 0 := by omega
  have om : okDiv m = true := okDiv_of (b31 (by omega) bm) m0 (by decide)
  cases b with
  | true =>
    obtain ⟨f1, f2⟩ := fmod_in (a := s) hm
    refine ⟨s.fmod m, s.fdiv m, f1, f2, fun z => (nomatch z), ?_⟩
    simp (decide := true) only [runFd, f__law_take, so, EV, q_lcl, asgM, callM, callR, ioIx, argSls, argSl, ioSl, callE, putOuts, outsOf, goodArgs, ioAt, startS, Ob.val, List.set_cons_zero, List.set_cons_succ, List.length_cons, List.length_nil, Nat.reduceAdd, Nat.reduceSub, Nat.reduceLT, Nat.sub_self, List.replicate_zero, List.replicate_succ, List.cons_append, List.nil_append, List.append_nil, reduceIte, Option.map_some, Option.map_none, List.not_mem_nil, List.nodup_nil, if_true, if_false, Bool.false_eq_true, eq_self, or_self, or_false, false_or, Bool.not_true, Bool.not_false, List.map_cons, List.map_nil, decide_true, decide_false, q_ownL, q_six', q_sixJ, ixN20, q_setL, y2_0, y2_1, k_mod m0, k_div om, List.mem_singleton]
  | false =>
    obtain ⟨i1, i2⟩ := iv rfl
    have k1 : okMul s 48271 = true := okMul_of (b31 i1 (by omega)) (b31 (i := 48271) (by decide) (by decide)) (by decide)
    have n1 : (2147483647 : Int) ≠ 0 := by decide
    obtain ⟨a1, a2⟩ := fmod_in (a := s * 48271 + 29) (m := 2147483647) (by decide)
    generalize hs1 : (s * 48271 + 29).fmod 2147483647 = s1 at a1 a2
    have k2 : okMul s1 s1 = true := okMul_of (b31 a1 (by omega)) (b31 a1 (by omega)) (by decide)
    have k3 : okMul 39373 s1 = true := okMul_of (b31 (i := 39373) (by decide) (by decide)) (b31 a1 (by omega)) (by decide)
    have n2 : (2147483629 : Int) ≠ 0 := by decide
    obtain ⟨c1, c2⟩ := fmod_in (a := s1 * s1 + 39373 * s1 + 7) (m := 2147483629) (by decide)
    generalize hs2 : (s1 * s1 + 39373 * s1 + 7).fmod 2147483629 = s2 at c1 c2
    have k4 : okMul s2 s2 = true := okMul_of (b31 c1 (by omega)) (b31 c1 (by omega)) (by decide)
    have k5 : okMul 16807 s2 = true := okMul_of (b31 (i := 16807) (by decide) (by decide)) (b31 c1 (by omega)) (by decide)
    have n3 : (2147483587 : Int) ≠ 0 := by decide
    generalize hs3 : (s2 * s2 + 16807 * s2).fmod 2147483587 = s3
    have o8 : okDiv 8 = true := by decide
    obtain ⟨f1, f2⟩ := fmod_in (a := s3.fdiv 8) hm
    refine ⟨(s3.fdiv 8).fmod m, s1, f1, f2, fun _ => ⟨a1, a2⟩, ?_⟩
    simp (decide := true) only [runFd, f__law_take, so, EV, q_lcl, asgM, callM, callR, ioIx, argSls, argSl, ioSl, callE, putOuts, outsOf, goodArgs, ioAt, startS, Ob.val, List.set_cons_zero, List.set_cons_succ, List.length_cons, List.length_nil, Nat.reduceAdd, Nat.reduceSub, Nat.reduceLT, Nat.sub_self, List.replicate_zero, List.replicate_succ, List.cons_append, List.nil_append, List.append_nil, reduceIte, Option.map_some, Option.map_none, List.not_mem_nil, List.nodup_nil, if_true, if_false, Bool.false_eq_true, eq_self, or_self, or_false, false_or, Bool.not_true, Bool.not_false, List.map_cons, List.map_nil, decide_true, decide_false, q_ownL, q_six', q_sixJ, ixN20, q_setL, y2_0, y2_1, k_mul k1, k_mul k2, k_mul k3, k_mul k4, k_mul k5, k_mod n1, k_mod n2, k_mod n3, k_div o8, k_mod m0, hs1, hs2, hs3, List.mem_singleton]
theorem r_small {k : Nat} (h : 3 ≤ k) {s : Int} {b : Bool} (iv : Iv s b) : ∃ (q : Rat) (s' : Int), Bt 5 q ∧ Iv s' b ∧ (calAt g.pr k).run i__law_small [.ow (so s b)] = .ok (.sh (fr q)) [so s' b] := by
  obtain ⟨k, rfl⟩ := Nat.exists_eq_add_of_le' (show 1 ≤ k by omega)
  rw [rr k (t := ⟨f__law_small, _, _, _⟩) rfl]
  obtain ⟨r1, s1, a1, a2, iv1, e1⟩ := r_take (k := k) (by omega) iv (m := 19) (by decide) (by decide)
  obtain ⟨r2, s2, b1, b2, iv2, e2⟩ := r_take (k := k) (by omega) iv1 (m := 6) (by decide) (by decide)
  obtain ⟨r3, s3, c1, c2, iv3, e3⟩ := r_take (k := k) (by omega) iv2 (m := 3) (by decide) (by decide)
  have hx : ∃ x : Int, 0 ≤ x ∧ x < 6 ∧ ixD (.list [.int 0, .int 0, .int r2]) (.int r3) = some (.int x) := by
    rcases (show r3 = 0 ∨ r3 = 1 ∨ r3 = 2 by omega) with rfl | rfl | rfl
    · exact ⟨0, by decide, by decide, rfl⟩
    · exact ⟨0, by decide, by decide, rfl⟩
    · exact ⟨r2, b1, b2, rfl⟩
  obtain ⟨x, x0, x1, hx⟩ := hx
  have hd : (1 + x) ≠ 0 := by omega
  have bd : Bi 5 (1 + x) := by unfold Bi; omega
  have bn : Bi 5 (r1 - 9) := by unfold Bi; omega
  have rt := r_lratio (k := k) (by omega) (a := r1 - 9) hd (bd.mono (by decide))
  refine ⟨Rat.divInt (r1 - 9) (1 + x), s3, Bt.divInt hd bn bd, iv3, ?_⟩
  unfold so at *
  simp (decide := true) only [runFd, f__law_small, EV, q_lcl, asgM, callM, callR, ioIx, argSls, argSl, ioSl, callE, putOuts, outsOf, goodArgs, ioAt, startS, Ob.val, List.set_cons_zero, List.set_cons_succ, List.length_cons, List.length_nil, Nat.reduceAdd, Nat.reduceSub, Nat.reduceLT, Nat.sub_self, List.replicate_zero, List.replicate_succ, List.cons_append, List.nil_append, List.append_nil, reduceIte, Option.map_some, Option.map_none, List.not_mem_nil, List.nodup_nil, if_true, if_false, Bool.false_eq_true, eq_self, or_self, or_false, false_or, Bool.not_true, Bool.not_false, List.map_cons, List.map_nil, decide_true, decide_false, q_ownL, e1, e2, e3, hx, rt, List.nodup_cons]
theorem r_cell_at {k : Nat} (h : 1 ≤ k) {ns : List Int} {i : Nat} : ∃ c : Int, (calAt g.pr k).run i__law_cell_at [lawArg ns, .sh (.int (i : Int))] = .ok (.sh (.int c)) [] := by
  obtain ⟨k, rfl⟩ := Nat.exists_eq_add_of_le' (show 1 ≤ k by omega)
  rw [rr k (t := ⟨f__law_cell_at, _, _, _⟩) rfl]
  unfold lawArg
  by_cases w : i < ns.length
  · have hw : decide ((i : Int) < ((ns.map PyData.int).length : Int)) = true := decide_eq_true (by rw [List.length_map]; omega)
    have hx := ix_of (xs := ns.map PyData.int) (r := (i : Int)) (by omega) (by rw [List.length_map]; omega)
    rw [List.getElem_map] at hx
    refine ⟨ns[(i : Int).toNat], ?_⟩
    simp (decide := true) only [runFd, f__law_cell_at, EV, q_lcl, asgM, callM, callR, ioIx, argSls, argSl, ioSl, callE, putOuts, outsOf, goodArgs, ioAt, startS, Ob.val, List.set_cons_zero, List.set_cons_succ, List.length_cons, List.length_nil, Nat.reduceAdd, Nat.reduceSub, Nat.reduceLT, Nat.sub_self, List.replicate_zero, List.replicate_succ, List.cons_append, List.nil_append, List.append_nil, reduceIte, Option.map_some, Option.map_none, List.not_mem_nil, List.nodup_nil, if_true, if_false, Bool.false_eq_true, eq_self, or_self, or_false, false_or, Bool.not_true, Bool.not_false, List.map_cons, List.map_nil, decide_true, decide_false, q_ownL, n_len, hw, hx]
  · have hw : decide ((i : Int) < ((ns.map PyData.int).length : Int)) = false := decide_eq_false (by rw [List.length_map]; omega)
    refine ⟨0, ?_⟩
    simp (decide := true) only [runFd, f__law_cell_at, EV, q_lcl, asgM, callM, callR, ioIx, argSls, argSl, ioSl, callE, putOuts, outsOf, goodArgs, ioAt, startS, Ob.val, List.set_cons_zero, List.set_cons_succ, List.length_cons, List.length_nil, Nat.reduceAdd, Nat.reduceSub, Nat.reduceLT, Nat.sub_self, List.replicate_zero, List.replicate_succ, List.cons_append, List.nil_append, List.append_nil, reduceIte, Option.map_some, Option.map_none, List.not_mem_nil, List.nodup_nil, if_true, if_false, Bool.false_eq_true, eq_self, or_self, or_false, false_or, Bool.not_true, Bool.not_false, List.map_cons, List.map_nil, decide_true, decide_false, q_ownL, n_len, hw]
theorem r_state {k : Nat} (h : 2 ≤ k) {ns : List Int} {i : Nat} : ∃ (s : Int) (b : Bool), Iv s b ∧ (calAt g.pr k).run i__law_state [lawArg ns, .sh (.int (i : Int))] = .ok (.ow (so s b)) [] := by
  obtain ⟨k, rfl⟩ := Nat.exists_eq_add_of_le' (show 1 ≤ k by omega)
  rw [rr k (t := ⟨f__law_state, _, _, _⟩) rfl]
  obtain ⟨c, e1⟩ := r_cell_at (k := k) (by omega) (ns := ns) (i := i)
  unfold lawArg at *
  by_cases w : 1000000000000000000 ≤ c
  · have hw : decide ((1000000000000000000 : Int) ≤ c) = true := decide_eq_true w
    refine ⟨c - 1000000000000000000, true, fun z => (nomatch z), ?_⟩
    unfold so
    simp (decide := true) only [runFd, f__law_state, EV, q_lcl, asgM, callM, callR, ioIx, argSls, argSl, ioSl, callE, putOuts, outsOf, goodArgs, ioAt, startS, Ob.val, List.set_cons_zero, List.set_cons_succ, List.length_cons, List.length_nil, Nat.reduceAdd, Nat.reduceSub, Nat.reduceLT, Nat.sub_self, List.replicate_zero, List.replicate_succ, List.cons_append, List.nil_append, List.append_nil, reduceIte, Option.map_some, Option.map_none, List.not_mem_nil, List.nodup_nil, if_true, if_false, Bool.false_eq_true, eq_self, or_self, or_false, false_or, Bool.not_true, Bool.not_false, List.map_cons, List.map_nil, decide_true, decide_false, e1, k_pow18, hw]
  · have hw : decide ((1000000000000000000 : Int) ≤ c) = false := decide_eq_false w
    have n1 : (2147483647 : Int) ≠ 0 := by decide
    obtain ⟨a1, a2⟩ := fmod_in (a := c) (m := 2147483647) (by decide)
    refine ⟨c.fmod 2147483647, false, fun _ => ⟨a1, a2⟩, ?_⟩
    unfold so
    simp (decide := true) only [runFd, f__law_state, EV, q_lcl, asgM, callM, callR, ioIx, argSls, argSl, ioSl, callE, putOuts, outsOf, goodArgs, ioAt, startS, Ob.val, List.set_cons_zero, List.set_cons_succ, List.length_cons, List.length_nil, Nat.reduceAdd, Nat.reduceSub, Nat.reduceLT, Nat.sub_self, List.replicate_zero, List.replicate_succ, List.cons_append, List.nil_append, List.append_nil, reduceIte, Option.map_some, Option.map_none, List.not_mem_nil, List.nodup_nil, if_true, if_false, Bool.false_eq_true, eq_self, or_self, or_false, false_or, Bool.not_true, Bool.not_false, List.map_cons, List.map_nil, decide_true, decide_false, e1, k_pow18, hw, k_mod n1]
/-! ### the same -/
end Lw
set_option Elab.async false
set_option linter.all false
set_option maxRecDepth 100000
set_option maxHeartbeats 400000
/-! Signs of numbers a + b * root d. -/
namespace Lw
open PySem Hg
/-- no fraction's square -/
def Ns (d : Rat) : Prop := ∀ r : Rat, r * r ≠ d
theorem Ns.of {u : Nat} (h : ∀ n : Nat, n * n ≠ u) : Ns (u : Rat) := fun r e => by
  obtain ⟨e1, e2⟩ := sq_num r
  have h2 : (r * r).num = (u : Int) := by rw [e] <;> rfl
  rw [e1] at h2
  apply h r.num.natAbs
  have := congrArg Int.natAbs h2
  rw [Int.natAbs_mul] at this
  simpa using this
def sgi (x : Int) : Int := (if 0 < x then 1 else 0) - (if x < 0 then 1 else 0)
theorem sgi_pos {x : Int} (h : 0 < x) : sgi x = 1 := by
  unfold sgi
  rw [if_pos h, if_neg (by omega)]
  rfl
theorem sgi_neg {x : Int} (h : x < 0) : sgi x = -1 := by
  unfold sgi
  rw [if_pos h, if_neg (by omega)]
  rfl
theorem sgi_zero : sgi 0 = 0 := rfl
theorem sg_zero : sg 0 = 0 := rfl
theorem sg_cases (a : Rat) : (0 < a ∧ sg a = 1) ∨ (a = 0 ∧ sg a = 0) ∨ (a < 0 ∧ sg a = -1) := by
  by_cases z : a = 0
  · exact .inr (.inl ⟨z, by rw [z] <;> rfl⟩)
  · rcases ne_cases z with h | h
    · exact .inl ⟨h, sg_pos h⟩
    · exact .inr (.inr ⟨h, sg_neg h⟩)
theorem sg_und {d b : Rat} (u : 0 < d) : sg (b * ab b * d) = sg b := by
  rcases sg_cases b with ⟨h, e⟩ | ⟨h, e⟩ | ⟨h, e⟩
  · rw [e, sg_pos (un_pos u h)]
  · rw [h]
    have z : (0 : Rat) * ab 0 * d = 0 := by grind
    rw [z]
  · rw [e, sg_neg (un_neg u h)]
/-- the sign of a + b * root d -/
def rs (d : Rat) (p : Nu) : Int := if sg p.1 = sg p.2 ∨ sg p.2 = 0 then sg p.1 else if sg p.1 = 0 ∨ p.1 * p.1 < p.2 * p.2 * d then sg p.2 else sg p.1
theorem sg_lt {a : Rat} : decide (sg a < 0) = decide (a < 0) := by
  rcases sg_cases a with ⟨h, e⟩ | ⟨h, e⟩ | ⟨h, e⟩
  · rw [e]
    exact decide_eq_decide.mpr ⟨fun z => by omega, fun z => by grind⟩
  · rw [e]
    exact decide_eq_decide.mpr ⟨fun z => by omega, fun z => by grind⟩
  · rw [e]
    exact decide_eq_decide.mpr ⟨fun z => h, fun z => by decide⟩
/-! ### the law's look -/
def tp (p : Nu) : Int := p.1.num * p.2.den
def mr (p : Nu) : Int := p.2.num * p.1.den
def ls (u : Nat) (p : Nu) : Int := if (0 ≤ tp p ∧ 0 ≤ mr p) ∨ (tp p ≤ 0 ∧ mr p ≤ 0) then sgi (tp p + mr p) else if mr p * mr p * (u : Int) < tp p * tp p then sgi (tp p) else sgi (mr p)
theorem num_sg (a : Rat) {k : Int} (hk : 0 < k) : sgi (a.num * k) = sg a := by
  rcases Int.lt_trichotomy a.num 0 with z | z | z
  · rw [sgi_neg (Int.mul_neg_of_neg_of_pos z hk), sg_neg (num_neg_iff.mp z)]
  · rw [z, Int.zero_mul, Rat.num_eq_zero.mp z]
    rfl
  · have h : 0 < a := by
      have h1 : 0 ≤ a := Rat.num_nonneg.mp (by omega)
      have h2 : a ≠ 0 := fun e => by rw [e] at z; exact absurd z (by decide)
      grind
    rw [sgi_pos (Int.mul_pos z hk), sg_pos h]
theorem den_pos (a : Rat) : (0 : Int) < (a.den : Int) := by
  have := a.den_nz
  omega
theorem mul_den (a : Rat) : a * (a.den : Rat) = ((a.num : Int) : Rat) := by
  have d : (0 : Rat) < (a.den : Rat) := by
    have z : ((0 : Nat) : Rat) < (a.den : Rat) := Rat.natCast_lt_natCast.mpr (Nat.pos_of_ne_zero a.den_nz)
    exact z
  have z := Rat.num_divInt_den a
  rw [Rat.divInt_eq_div] at z
  have z2 : ((a.num : Int) : Rat) / (a.den : Rat) = a := z
  grind
theorem sq_lt (p : Nu) (u : Nat) : p.2 * p.2 * (u : Rat) < p.1 * p.1 ↔ mr p * mr p * (u : Int) < tp p * tp p := by
  have d1 : (0 : Rat) < (p.1.den : Rat) := by
    have z : ((0 : Nat) : Rat) < (p.1.den : Rat) := Rat.natCast_lt_natCast.mpr (Nat.pos_of_ne_zero p.1.den_nz)
    exact z
  have d2 : (0 : Rat) < (p.2.den : Rat) := by
    have z : ((0 : Nat) : Rat) < (p.2.den : Rat) := Rat.natCast_lt_natCast.mpr (Nat.pos_of_ne_zero p.2.den_nz)
    exact z
  have e1 := mul_den p.1
  have e2 := mul_den p.2
  have k : (0 : Rat) < (p.1.den : Rat) * (p.2.den : Rat) * ((p.1.den : Rat) * (p.2.den : Rat)) := Rat.mul_pos (Rat.mul_pos d1 d2) (Rat.mul_pos d1 d2)
  rw [← Rat.mul_lt_mul_right k, ← Rat.intCast_lt_intCast]
  have l : p.2 * p.2 * (u : Rat) * ((p.1.den : Rat) * (p.2.den : Rat) * ((p.1.den : Rat) * (p.2.den : Rat))) = ((mr p * mr p * (u : Int) : Int) : Rat) := by
    unfold mr
    rw [Rat.intCast_mul, Rat.intCast_mul, Rat.intCast_mul]
    show _ = ((p.2.num : Int) : Rat) * (p.1.den : Rat) * (((p.2.num : Int) : Rat) * (p.1.den : Rat)) * (u : Rat)
    rw [← e2]
    grind
  have r : p.1 * p.1 * ((p.1.den : Rat) * (p.2.den : Rat) * ((p.1.den : Rat) * (p.2.den : Rat))) = ((tp p * tp p : Int) : Rat) := by
    unfold tp
    rw [Rat.intCast_mul, Rat.intCast_mul]
    show _ = ((p.1.num : Int) : Rat) * (p.2.den : Rat) * (((p.1.num : Int) : Rat) * (p.2.den : Rat))
    rw [← e1]
    grind
  rw [l, r]
theorem ls_rs {u : Nat} (ns : Ns (u : Rat)) (p : Nu) : ls u p = rs (u : Rat) p := by
  have st : sgi (tp p) = sg p.1 := num_sg p.1 (den_pos p.2)
  have sm : sgi (mr p) = sg p.2 := num_sg p.2 (den_pos p.1)
  have key := sq_lt p u
  have tri : ∀ x : Int, (0 < x ∧ sgi x = 1) ∨ (x = 0 ∧ sgi x = 0) ∨ (x < 0 ∧ sgi x = -1) := fun x => by
    rcases Int.lt_trichotomy x 0 with z | z | z
    · exact .inr (.inr ⟨z, sgi_neg z⟩)
    · exact .inr (.inl ⟨z, by rw [z] <;> rfl⟩)
    · exact .inl ⟨z, sgi_pos z⟩
  have ne : p.2 ≠ 0 → p.1 * p.1 ≠ p.2 * p.2 * (u : Rat) := fun h e => ns (p.1 / p.2) (by grind)
  unfold ls rs
  rw [← st, ← sm]
  have dec : sgi (mr p) ≠ 0 → (p.1 * p.1 < p.2 * p.2 * (u : Rat) ↔ ¬ mr p * mr p * (u : Int) < tp p * tp p) := fun h => by
    rw [← key]
    have h2 : p.2 ≠ 0 := fun e => h (by rw [sm, e] <;> rfl)
    have := ne h2
    constructor
    · intro z; grind
    · intro z; grind
  rcases tri (tp p) with ⟨t1, t2⟩ | ⟨t1, t2⟩ | ⟨t1, t2⟩ <;> rcases tri (mr p) with ⟨m1, m2⟩ | ⟨m1, m2⟩ | ⟨m1, m2⟩
  · rw [if_pos (.inl ⟨by omega, by omega⟩), if_pos (.inl (by rw [t2, m2])), t2, sgi_pos (by omega)]
  · rw [if_pos (.inl ⟨by omega, by omega⟩), if_pos (.inr m2), t2, sgi_pos (by omega)]
  · have hA : ¬ ((0 ≤ tp p ∧ 0 ≤ mr p) ∨ (tp p ≤ 0 ∧ mr p ≤ 0)) := by omega
    have hC : ¬ (sgi (tp p) = sgi (mr p) ∨ sgi (mr p) = 0) := by rw [t2, m2]; decide
    rw [if_neg hA, if_neg hC]
    by_cases c : mr p * mr p * (u : Int) < tp p * tp p
    · rw [if_pos c, if_neg (fun z => z.elim (by rw [t2]; decide) fun z => (dec (by rw [m2]; decide)).mp z c)]
    · rw [if_neg c, if_pos (.inr ((dec (by rw [m2]; decide)).mpr c))]
  · rw [if_pos (.inl ⟨by omega, by omega⟩), if_neg (by rw [t2, m2]; decide), if_pos (.inl t2), m2, sgi_pos (by omega)]
  · rw [if_pos (.inl ⟨by omega, by omega⟩), if_pos (.inr m2), t2, t1, m1]
    rfl
  · rw [if_pos (.inr ⟨by omega, by omega⟩), if_neg (by rw [t2, m2]; decide), if_pos (.inl t2), m2, sgi_neg (by omega)]
  · have hA : ¬ ((0 ≤ tp p ∧ 0 ≤ mr p) ∨ (tp p ≤ 0 ∧ mr p ≤ 0)) := by omega
    have hC : ¬ (sgi (tp p) = sgi (mr p) ∨ sgi (mr p) = 0) := by rw [t2, m2]; decide
    rw [if_neg hA, if_neg hC]
    by_cases c : mr p * mr p * (u : Int) < tp p * tp p
    · rw [if_pos c, if_neg (fun z => z.elim (by rw [t2]; decide) fun z => (dec (by rw [m2]; decide)).mp z c)]
    · rw [if_neg c, if_pos (.inr ((dec (by rw [m2]; decide)).mpr c))]
  · rw [if_pos (.inr ⟨by omega, by omega⟩), if_pos (.inr m2), t2, sgi_neg (by omega)]
  · rw [if_pos (.inr ⟨by omega, by omega⟩), if_pos (.inl (by rw [t2, m2])), t2, sgi_neg (by omega)]
end Lw
set_option Elab.async false
set_option linter.all false
set_option maxRecDepth 100000
set_option maxHeartbeats 400000
/-! Signs of products. -/
namespace Lw
open PySem Hg
theorem sg_mul (a b : Rat) : sg (a * b) = sg a * sg b := by
  rcases sg_cases a with ⟨h, e⟩ | ⟨h, e⟩ | ⟨h, e⟩ <;> rcases sg_cases b with ⟨h2, e2⟩ | ⟨h2, e2⟩ | ⟨h2, e2⟩
  · rw [e, e2, sg_pos (Rat.mul_pos h h2)] <;> rfl
  · rw [e, e2, h2, Rat.mul_zero] <;> rfl
  · have z := Rat.mul_pos h (show 0 < -b by grind)
    rw [e, e2, sg_neg (show a * b < 0 by grind)] <;> rfl
  · rw [e, e2, h, Rat.zero_mul] <;> rfl
  · rw [e, e2, h, Rat.zero_mul] <;> rfl
  · rw [e, e2, h, Rat.zero_mul] <;> rfl
  · have z := Rat.mul_pos (show 0 < -a by grind) h2
    rw [e, e2, sg_neg (show a * b < 0 by grind)] <;> rfl
  · rw [e, e2, h2, Rat.mul_zero] <;> rfl
  · have z := Rat.mul_pos (show 0 < -a by grind) (show 0 < -b by grind)
    rw [e, e2, sg_pos (show 0 < a * b by grind)] <;> rfl
theorem sg_neg' (a : Rat) : sg (-a) = -sg a := by
  have h := sg_mul (-1) a
  rw [show (-1 : Rat) * a = -a by grind] at h
  rw [h, show sg (-1) = -1 from rfl]
  omega
/-- the greater square tells -/
theorem sg_add {x y : Rat} (h : y * y < x * x) : sg (x + y) = sg x := by
  rcases sg_cases x with ⟨hx, e⟩ | ⟨hx, e⟩ | ⟨hx, e⟩
  · rw [e, sg_pos]
    rcases sg_cases (x + y) with ⟨z, _⟩ | ⟨z, _⟩ | ⟨z, _⟩
    · exact z
    · exact absurd h (by
        have : y = -x := by grind
        rw [this]
        grind)
    · have w := Rat.mul_pos (show 0 < -(x + y) by grind) (show 0 < x - y by grind)
      grind
  · rw [hx] at h
    have := ab_sq y
    have z : 0 ≤ y * y := by rw [← this]; exact Rat.mul_nonneg (ab_nn y) (ab_nn y)
    grind
  · rw [e, sg_neg]
    rcases sg_cases (x + y) with ⟨z, _⟩ | ⟨z, _⟩ | ⟨z, _⟩
    · have w := Rat.mul_pos z (show 0 < -(x - y) by grind)
      grind
    · exact absurd h (by
        have : y = -x := by grind
        rw [this]
        grind)
    · exact z
/-- the number times its fellow -/
def nm (d : Rat) (p : Nu) : Rat := p.1 * p.1 - p.2 * p.2 * d
theorem rs_nm {d : Rat} (u : 0 < d) (p : Nu) : (0 < nm d p → rs d p = sg p.1) ∧ (nm d p < 0 → rs d p = sg p.2) := by
  have sqn : ∀ x : Rat, 0 ≤ x * x := fun x => by rw [← ab_sq x]; exact Rat.mul_nonneg (ab_nn x) (ab_nn x)
  have z0 : ∀ {x : Rat}, sg x = 0 → x = 0 := fun {x} h => by
    rcases sg_cases x with ⟨_, e⟩ | ⟨h, _⟩ | ⟨_, e⟩
    · rw [e] at h; exact absurd h (by decide)
    · exact h
    · rw [e] at h; exact absurd h (by decide)
  unfold nm rs
  refine ⟨fun h => ?_, fun h => ?_⟩
  · by_cases c : sg p.1 = sg p.2 ∨ sg p.2 = 0
    · rw [if_pos c]
    · rw [if_neg c]
      have c2 : ¬ (sg p.1 = 0 ∨ p.1 * p.1 < p.2 * p.2 * d) := by
        rintro (z | z)
        · have := z0 z
          rw [this] at h
          have w := Rat.mul_nonneg (sqn p.2) (Rat.le_of_lt u)
          grind
        · grind
      rw [if_neg c2]
  · by_cases c : sg p.1 = sg p.2 ∨ sg p.2 = 0
    · rw [if_pos c]
      rcases c with c | c
      · exact c
      · have := z0 c
        rw [this] at h
        have w := sqn p.1
        grind
    · rw [if_neg c, if_pos (.inr (by grind))]
theorem nm_pt (d : Rat) (p q : Nu) : nm d (pt d p q) = nm d p * nm d q := by
  unfold nm pt
  grind
theorem nm_zero {d : Rat} (ns : Ns d) {p : Nu} (h : nm d p = 0) : p = (0, 0) := by
  unfold nm at h
  by_cases c : p.2 = 0
  · rw [c] at h
    have : p.1 = 0 := by
      rcases Rat.mul_eq_zero.mp (show p.1 * p.1 = 0 by grind) with z | z <;> exact z
    exact Prod.ext this c
  · exact absurd (show p.1 / p.2 * (p.1 / p.2) = d by grind) (ns _)
theorem rs_zero (d : Rat) : rs d (0, 0) = 0 := by
  unfold rs
  rw [if_pos (.inl rfl)]
  rfl
theorem cross {X Y X' Y' : Rat} (y0 : 0 ≤ Y) (y0' : 0 ≤ Y') (h : Y < X) (h' : Y' < X') : Y * Y' < X * X' := by
  have a := Rat.mul_pos (show 0 < X by grind) (show 0 < X' - Y' by grind)
  have b := Rat.mul_nonneg y0' (show 0 ≤ X - Y by grind)
  grind
theorem sq_nn (x : Rat) : 0 ≤ x * x := by
  rw [← ab_sq x]
  exact Rat.mul_nonneg (ab_nn x) (ab_nn x)
theorem rs_mul {d : Rat} (u : 0 < d) (ns : Ns d) (p q : Nu) : rs d (pt d p q) = rs d p * rs d q := by
  by_cases zp : nm d p = 0
  · rw [nm_zero ns zp, rs_zero, Int.zero_mul]
    have e : pt d (0, 0) q = (0, 0) := by
      unfold pt
      refine Prod.ext ?_ ?_
      · show 0 * q.1 + 0 * q.2 * d = 0
        grind
      · show 0 * q.2 + 0 * q.1 = 0
        grind
    rw [e, rs_zero]
  by_cases zq : nm d q = 0
  · rw [nm_zero ns zq, rs_zero, Int.mul_zero]
    have e : pt d p (0, 0) = (0, 0) := by
      unfold pt
      refine Prod.ext ?_ ?_
      · show p.1 * 0 + p.2 * 0 * d = 0
        grind
      · show p.1 * 0 + p.2 * 0 = 0
        grind
    rw [e, rs_zero]
  have N := nm_pt d p q
  have sd : sg d = 1 := sg_pos u
  rcases ne_cases zp with hp | hp <;> rcases ne_cases zq with hq | hq
  · have h := Rat.mul_pos hp hq
    rw [(rs_nm u p).1 hp, (rs_nm u q).1 hq, (rs_nm u _).1 (by rw [N]; exact h)]
    show sg (p.1 * q.1 + p.2 * q.2 * d) = _
    rw [sg_add ?_, sg_mul]
    unfold nm at hp hq
    have z := cross (Rat.mul_nonneg (sq_nn p.2) (Rat.le_of_lt u)) (Rat.mul_nonneg (sq_nn q.2) (Rat.le_of_lt u)) (show p.2 * p.2 * d < p.1 * p.1 by grind) (show q.2 * q.2 * d < q.1 * q.1 by grind)
    grind
  · have h := Rat.mul_pos hp (show 0 < -nm d q by grind)
    rw [(rs_nm u p).1 hp, (rs_nm u q).2 hq, (rs_nm u _).2 (by rw [N]; grind)]
    show sg (p.1 * q.2 + p.2 * q.1) = _
    rw [sg_add ?_, sg_mul]
    unfold nm at hp hq
    have z := cross (Rat.mul_nonneg (sq_nn p.2) (Rat.le_of_lt u)) (sq_nn q.1) (show p.2 * p.2 * d < p.1 * p.1 by grind) (show q.1 * q.1 < q.2 * q.2 * d by grind)
    exact Rat.lt_of_mul_lt_mul_right (c := d) (by grind) (Rat.le_of_lt u)
  · have h := Rat.mul_pos (show 0 < -nm d p by grind) hq
    rw [(rs_nm u p).2 hp, (rs_nm u q).1 hq, (rs_nm u _).2 (by rw [N]; grind)]
    show sg (p.1 * q.2 + p.2 * q.1) = _
    rw [Rat.add_comm, sg_add ?_, sg_mul]
    unfold nm at hp hq
    have z := cross (sq_nn p.1) (Rat.mul_nonneg (sq_nn q.2) (Rat.le_of_lt u)) (show p.1 * p.1 < p.2 * p.2 * d by grind) (show q.2 * q.2 * d < q.1 * q.1 by grind)
    exact Rat.lt_of_mul_lt_mul_right (c := d) (by grind) (Rat.le_of_lt u)
  · have h := Rat.mul_pos (show 0 < -nm d p by grind) (show 0 < -nm d q by grind)
    rw [(rs_nm u p).2 hp, (rs_nm u q).2 hq, (rs_nm u _).1 (by rw [N]; grind)]
    show sg (p.1 * q.1 + p.2 * q.2 * d) = _
    rw [Rat.add_comm, sg_add ?_, sg_mul, sg_mul, sd, Int.mul_one]
    unfold nm at hp hq
    have z := cross (sq_nn p.1) (sq_nn q.1) (show p.1 * p.1 < p.2 * p.2 * d by grind) (show q.1 * q.1 < q.2 * q.2 * d by grind)
    grind
theorem rs_neg (d : Rat) (u : 0 < d) (ns : Ns d) (p : Nu) : rs d (pn p) = -rs d p := by
  have h := rs_mul u ns (-1, 0) p
  have e : pt d (-1, 0) p = pn p := by
    unfold pt pn
    refine Prod.ext ?_ ?_
    · show -1 * p.1 + 0 * p.2 * d = -p.1
      grind
    · show -1 * p.2 + 0 * p.1 = -p.2
      grind
  have e1 : rs d (-1, 0) = -1 := by
    unfold rs
    rw [if_pos (.inr rfl)]
    rfl
  rw [e, e1] at h
  omega
end Lw
set_option Elab.async false
set_option linter.all false
set_option maxRecDepth 100000
set_option maxHeartbeats 400000
/-! Root numbers: made, known, quotients. -/
namespace Lw
open PySem Hg
theorem ns_und {d b : Rat} (ns : Ns d) (hb : b ≠ 0) : Ns (b * b * d) := fun r e => ns (r / b) (by grind)
theorem r_is_whole {k : Nat} (h : 1 ≤ k) (i : Int) : (calAt g.pr k).run i_is_whole [.sh (.int i)] = .ok (.sh (.bool true)) [] := by
  obtain ⟨k, rfl⟩ := Nat.exists_eq_add_of_le' (show 1 ≤ k by omega)
  rw [rr k (t := ⟨f_is_whole, _, _, _⟩) rfl]
  have t1 : [Ty.int].any (isTy (.int i)) = true := rfl
  have t2 : [Ty.bool].any (isTy (.int i)) = false := rfl
  simp only [runFd, f_is_whole, EV, q_lcl, asgM, callM, callR, ioIx, argSls, argSl, ioSl, callE, putOuts, outsOf, goodArgs, ioAt, startS, Ob.val, List.set_cons_zero, List.set_cons_succ, List.length_cons, List.length_nil, Nat.reduceAdd, Nat.reduceSub, Nat.reduceLT, Nat.sub_self, List.replicate_zero, List.replicate_succ, List.cons_append, List.nil_append, List.append_nil, reduceIte, Option.map_some, Option.map_none, List.not_mem_nil, List.nodup_nil, if_true, if_false, Bool.false_eq_true, eq_self, or_self, or_false, false_or, Bool.not_true, Bool.not_false, List.map_cons, List.map_nil, decide_true, decide_false, t1, t2]
theorem gcd_loop2 (C : Cal) (x : Sl) : ∀ (n : Nat) (a b : Nat), b ≤ n → evS C [] (.whl (.cmp .Gt (.var 2) (.int 0)) (.cons (.par 1 2 (.var 2) (.bin .Mod (.var 1) (.var 2))) .nil)) [x, .sh (.int a), .sh (.int b)] = .ok .nx [x, .sh (.int (a.gcd b : Nat)), .sh (.int 0)] := by
  intro n
  induction n with
  | zero =>
    intro a b h
    have : b = 0 := by omega
    subst this
    rw [q_whl, whM_f (s1 := [x, .sh (.int a), .sh (.int 0)])]
    · simp
    · simp only [EV, q_lcl, asgM, callM, callR, ioIx, argSls, argSl, ioSl, callE, putOuts, outsOf, goodArgs, ioAt, startS, Ob.val, List.set_cons_zero, List.set_cons_succ, List.length_cons, List.length_nil, Nat.reduceAdd, Nat.reduceSub, Nat.reduceLT, Nat.sub_self, List.replicate_zero, List.replicate_succ, List.cons_append, List.nil_append, List.append_nil, reduceIte, Option.map_some, Option.map_none, List.not_mem_nil, List.nodup_nil, if_true, if_false, Bool.false_eq_true, eq_self, or_self, or_false, false_or, Bool.not_true, Bool.not_false, List.map_cons, List.map_nil, decide_true, decide_false] <;> rfl
  | succ n ih =>
    intro a b h
    by_cases w : b = 0
    · subst w
      rw [q_whl, whM_f (s1 := [x, .sh (.int a), .sh (.int 0)])]
      · simp
      · simp only [EV, q_lcl, asgM, callM, callR, ioIx, argSls, argSl, ioSl, callE, putOuts, outsOf, goodArgs, ioAt, startS, Ob.val, List.set_cons_zero, List.set_cons_succ, List.length_cons, List.length_nil, Nat.reduceAdd, Nat.reduceSub, Nat.reduceLT, Nat.sub_self, List.replicate_zero, List.replicate_succ, List.cons_append, List.nil_append, List.append_nil, reduceIte, Option.map_some, Option.map_none, List.not_mem_nil, List.nodup_nil, if_true, if_false, Bool.false_eq_true, eq_self, or_self, or_false, false_or, Bool.not_true, Bool.not_false, List.map_cons, List.map_nil, decide_true, decide_false] <;> rfl
    · have hm : (b : Int) ≠ 0 := by omega
      have hp : decide ((0 : Int) < (b : Int)) = true := decide_eq_true (by omega)
      have e : (a : Int).fmod (b : Int) = ((a % b : Nat) : Int) := by
        rw [Int.fmod_eq_emod_of_nonneg _ (by omega)]
        rfl
      rw [q_whl, whM_t (s1 := [x, .sh (.int a), .sh (.int b)]) (s2 := [x, .sh (.int b), .sh (.int (a % b : Nat))]), ← q_whl, ih b (a % b) (by have := Nat.mod_lt a (show b > 0 by omega); omega)]
      · rw [Nat.gcd_comm a b, Nat.gcd_rec b a, Nat.gcd_comm]
      · simp only [EV, q_lcl, asgM, callM, callR, ioIx, argSls, argSl, ioSl, callE, putOuts, outsOf, goodArgs, ioAt, startS, Ob.val, List.set_cons_zero, List.set_cons_succ, List.length_cons, List.length_nil, Nat.reduceAdd, Nat.reduceSub, Nat.reduceLT, Nat.sub_self, List.replicate_zero, List.replicate_succ, List.cons_append, List.nil_append, List.append_nil, reduceIte, Option.map_some, Option.map_none, List.not_mem_nil, List.nodup_nil, if_true, if_false, Bool.false_eq_true, eq_self, or_self, or_false, false_or, Bool.not_true, Bool.not_false, List.map_cons, List.map_nil, decide_true, decide_false, hp]
      · simp only [EV, q_lcl, asgM, callM, callR, ioIx, argSls, argSl, ioSl, callE, putOuts, outsOf, goodArgs, ioAt, startS, Ob.val, List.set_cons_zero, List.set_cons_succ, List.length_cons, List.length_nil, Nat.reduceAdd, Nat.reduceSub, Nat.reduceLT, Nat.sub_self, List.replicate_zero, List.replicate_succ, List.cons_append, List.nil_append, List.append_nil, reduceIte, Option.map_some, Option.map_none, List.not_mem_nil, List.nodup_nil, if_true, if_false, Bool.false_eq_true, eq_self, or_self, or_false, false_or, Bool.not_true, Bool.not_false, List.map_cons, List.map_nil, decide_true, decide_false, k_mod hm, e]
theorem r_divisor_of {k : Nat} (h : 1 ≤ k) (q : Rat) : (calAt g.pr k).run i_divisor_of [.sh (fr q)] = .ok (.sh (.int 1)) [] := by
  obtain ⟨k, rfl⟩ := Nat.exists_eq_add_of_le' (show 1 ≤ k by omega)
  rw [rr k (t := ⟨f_divisor_of, _, _, _⟩) rfl]
  have ea : ∀ i : Int, (if i < 0 then -i else i) = ((i.natAbs : Nat) : Int) := fun i => by split <;> omega
  have r1 := gcd_loop2 (calAt g.pr k) (.sh (.tuple [.int q.num, .int (q.den : Int)])) q.den q.num.natAbs q.den (Nat.le_refl _)
  have c : q.num.natAbs.gcd q.den = 1 := q.reduced
  rw [c] at r1
  unfold fr
  simp only [runFd, f_divisor_of, EV, q_lcl, asgM, callM, callR, ioIx, argSls, argSl, ioSl, callE, putOuts, outsOf, goodArgs, ioAt, startS, Ob.val, List.set_cons_zero, List.set_cons_succ, List.length_cons, List.length_nil, Nat.reduceAdd, Nat.reduceSub, Nat.reduceLT, Nat.sub_self, List.replicate_zero, List.replicate_succ, List.cons_append, List.nil_append, List.append_nil, reduceIte, Option.map_some, Option.map_none, List.not_mem_nil, List.nodup_nil, if_true, if_false, Bool.false_eq_true, eq_self, or_self, or_false, false_or, Bool.not_true, Bool.not_false, List.map_cons, List.map_nil, decide_true, decide_false, ea, r1] <;> rfl
theorem r_is_fraction {k : Nat} (h : 2 ≤ k) (q : Rat) : (calAt g.pr k).run i_is_fraction [.sh (fr q)] = .ok (.sh (.bool true)) [] := by
  obtain ⟨k, rfl⟩ := Nat.exists_eq_add_of_le' (show 1 ≤ k by omega)
  rw [rr k (t := ⟨f_is_fraction, _, _, _⟩) rfl]
  have r1 := r_is_whole (k := k) (by omega) q.num
  have r2 := r_is_whole (k := k) (by omega) (q.den : Int)
  have r3 := r_divisor_of (k := k) (by omega) q
  have t1 : [Ty.tuple].any (isTy (.tuple [.int q.num, .int (q.den : Int)])) = true := rfl
  have d1 : decide ((q.den : Int) < 1) = false := decide_eq_false (by have := q.den_nz; omega)
  unfold fr at r3 ⊢
  simp (decide := true) only [runFd, f_is_fraction, EV, q_lcl, asgM, callM, callR, ioIx, argSls, argSl, ioSl, callE, putOuts, outsOf, goodArgs, ioAt, startS, Ob.val, List.set_cons_zero, List.set_cons_succ, List.length_cons, List.length_nil, Nat.reduceAdd, Nat.reduceSub, Nat.reduceLT, Nat.sub_self, List.replicate_zero, List.replicate_succ, List.cons_append, List.nil_append, List.append_nil, reduceIte, Option.map_some, Option.map_none, List.not_mem_nil, List.nodup_nil, if_true, if_false, Bool.false_eq_true, eq_self, or_self, or_false, false_or, Bool.not_true, Bool.not_false, List.map_cons, List.map_nil, decide_true, decide_false, n_lent, t1, r1, r2, r3, d1, decide_true]
theorem und_abs {d b : Rat} (u : 0 < d) : ab (b * ab b * d) = b * b * d := by rw [ab_un u, ab_sq]
end Lw
set_option Elab.async false
set_option linter.all false
set_option maxRecDepth 100000
set_option maxHeartbeats 400000
/-! Law k41: steps and machines looked at. -/
namespace Lw
open PySem Hg
def whD : D → Bool
  | .int _ => true
  | _ => false
def frD : D → Bool
  | .tuple [.int a, .int b] => decide (1 ≤ b) && decide (a.natAbs.gcd b.natAbs = 1)
  | _ => false
def topD : D → Int
  | .tuple (.int a :: _) => a
  | _ => 0
def abD (d : D) : Bool := frD d && decide (0 < topD d)
def jtD (n : Int) : D → Bool
  | .int i => decide (0 ≤ i) && decide (i < n)
  | _ => false
def unD : D → D → Bool
  | .int i, .int j => decide (i ≠ j)
  | _, _ => true
def sdD : D → Bool
  | .int i => decide (0 ≤ i) && decide (i ≤ 1)
  | _ => false
def isFix : D → Bool
  | .tuple (.str s :: _) => decide (s = "fix")
  | _ => false
def fixAt (ah : List D) : D → Bool
  | .int i => match ah[i.toNat]? with
    | some d => isFix d
    | none => false
  | _ => false
/-- is it a step behind others -/
def stD (ah : List D) : D → Bool
  | .tuple (.str s :: r) =>
    if s = "fix" then (match r with
      | [a, b] => frD a && frD b
      | _ => false)
    else if s = "crank" then (match r with
      | [a, b] => jtD ah.length a && (fixAt ah a && abD b)
      | _ => false)
    else if s = "like" then (match r with
      | [a, b, c, d] => jtD ah.length a && (jtD ah.length b && (unD a b && (frD c && frD d)))
      | _ => false)
    else if s = "pair" then (match r with
      | [a, b, c, d, e] => jtD ah.length a && (jtD ah.length b && (unD a b && (abD c && (abD d && sdD e))))
      | _ => false)
    else false
  | _ => false
/-! ### kinds -/
theorem ty_i (d : D) : [Ty.int].any (isTy d) = (whD d || isTy d .bool) := by cases d <;> rfl
theorem ty_b (d : D) : [Ty.bool].any (isTy d) = isTy d .bool := by cases d <;> rfl
theorem wh_nb {d : D} (h : isTy d .bool = true) : whD d = false := by cases d <;> first | rfl | cases h
theorem r_whole {k : Nat} (h : 1 ≤ k) (d : D) : (calAt g.pr k).run i_is_whole [.sh d] = .ok (.sh (.bool (whD d))) [] := by
  obtain ⟨k, rfl⟩ := Nat.exists_eq_add_of_le' (show 1 ≤ k by omega)
  rw [rr k (t := ⟨f_is_whole, _, _, _⟩) rfl]
  have h1 := ty_i d
  have h2 := ty_b d
  cases hb : isTy d .bool with
  | true =>
    have hw := wh_nb hb
    rw [hw, hb] at h1
    rw [hb] at h2
    rw [hw]
    simp (decide := true) only [runFd, f_is_whole, EV, q_lcl, asgM, callM, callR, ioIx, argSls, argSl, ioSl, callE, putOuts, outsOf, goodArgs, ioAt, startS, Ob.val, List.set_cons_zero, List.set_cons_succ, List.length_cons, List.length_nil, Nat.reduceAdd, Nat.reduceSub, Nat.reduceLT, Nat.sub_self, List.replicate_zero, List.replicate_succ, List.cons_append, List.nil_append, List.append_nil, reduceIte, Option.map_some, Option.map_none, List.not_mem_nil, List.nodup_nil, if_true, if_false, Bool.false_eq_true, eq_self, or_self, or_false, false_or, Bool.not_true, Bool.not_false, List.map_cons, List.map_nil, decide_true, decide_false, h1, h2, Bool.or_true, Bool.false_or]
  | false =>
    rw [hb] at h1 h2
    cases hw : whD d with
    | true =>
      rw [hw] at h1
      simp (decide := true) only [runFd, f_is_whole, EV, q_lcl, asgM, callM, callR, ioIx, argSls, argSl, ioSl, callE, putOuts, outsOf, goodArgs, ioAt, startS, Ob.val, List.set_cons_zero, List.set_cons_succ, List.length_cons, List.length_nil, Nat.reduceAdd, Nat.reduceSub, Nat.reduceLT, Nat.sub_self, List.replicate_zero, List.replicate_succ, List.cons_append, List.nil_append, List.append_nil, reduceIte, Option.map_some, Option.map_none, List.not_mem_nil, List.nodup_nil, if_true, if_false, Bool.false_eq_true, eq_self, or_self, or_false, false_or, Bool.not_true, Bool.not_false, List.map_cons, List.map_nil, decide_true, decide_false, h1, h2, Bool.or_false, Bool.true_or]
    | false =>
      rw [hw] at h1
      simp (decide := true) only [runFd, f_is_whole, EV, q_lcl, asgM, callM, callR, ioIx, argSls, argSl, ioSl, callE, putOuts, outsOf, goodArgs, ioAt, startS, Ob.val, List.set_cons_zero, List.set_cons_succ, List.length_cons, List.length_nil, Nat.reduceAdd, Nat.reduceSub, Nat.reduceLT, Nat.sub_self, List.replicate_zero, List.replicate_succ, List.cons_append, List.nil_append, List.append_nil, reduceIte, Option.map_some, Option.map_none, List.not_mem_nil, List.nodup_nil, if_true, if_false, Bool.false_eq_true, eq_self, or_self, or_false, false_or, Bool.not_true, Bool.not_false, List.map_cons, List.map_nil, decide_true, decide_false, h1, h2, Bool.or_false, Bool.false_or]
theorem len_t (xs : List D) : bfD .len [.tuple xs] = some (.sh (.int (xs.length : Int))) := rfl
theorem tup_t (xs : List D) : [Ty.tuple].any (isTy (.tuple xs)) = true := rfl
theorem x2a (a b : D) : ixD (.tuple [a, b]) (.int 0) = some a := rfl
theorem x2b (a b : D) : ixD (.tuple [a, b]) (.int 1) = some b := rfl
theorem k_ne (i j : Int) : cmpD .NotEq (.int i) (.int j) = some (!decide (i = j)) := k_nei
theorem k_eq (i j : Int) : cmpD .Eq (.int i) (.int j) = some (decide (i = j)) := k_eqi
theorem k_lt (i j : Int) : cmpD .Lt (.int i) (.int j) = some (decide (i < j)) := rfl
theorem k_gt (i j : Int) : cmpD .Gt (.int i) (.int j) = some (decide (j < i)) := rfl
theorem k_le (i j : Int) : cmpD .LtE (.int i) (.int j) = some (decide (i ≤ j)) := rfl
theorem gcd_of {k : Nat} (h : 1 ≤ k) (a b : Int) (hb : 1 ≤ b) : (calAt g.pr k).run i_divisor_of [.sh (.tuple [.int a, .int b])] = .ok (.sh (.int (a.natAbs.gcd b.natAbs : Nat))) [] := by
  obtain ⟨k, rfl⟩ := Nat.exists_eq_add_of_le' (show 1 ≤ k by omega)
  rw [rr k (t := ⟨f_divisor_of, _, _, _⟩) rfl]
  have lp := gcd_loop2 (calAt g.pr k) (.sh (.tuple [.int a, .int b])) b.natAbs a.natAbs b.natAbs (Nat.le_refl _)
  have e : ((b.natAbs : Nat) : Int) = b := by omega
  rw [e] at lp
  have ea : (if a < 0 then -a else a) = (a.natAbs : Int) := by split <;> omega
  simp (decide := true) only [runFd, f_divisor_of, EV, q_lcl, asgM, callM, callR, ioIx, argSls, argSl, ioSl, callE, putOuts, outsOf, goodArgs, ioAt, startS, Ob.val, List.set_cons_zero, List.set_cons_succ, List.length_cons, List.length_nil, Nat.reduceAdd, Nat.reduceSub, Nat.reduceLT, Nat.sub_self, List.replicate_zero, List.replicate_succ, List.cons_append, List.nil_append, List.append_nil, reduceIte, Option.map_some, Option.map_none, List.not_mem_nil, List.nodup_nil, if_true, if_false, Bool.false_eq_true, eq_self, or_self, or_false, false_or, Bool.not_true, Bool.not_false, List.map_cons, List.map_nil, decide_true, decide_false, x2a, x2b, ea, lp]
theorem r_frac {k : Nat} (h : 2 ≤ k) (d : D) : (calAt g.pr k).run i_is_fraction [.sh d] = .ok (.sh (.bool (frD d))) [] := by
  obtain ⟨k, rfl⟩ := Nat.exists_eq_add_of_le' (show 1 ≤ k by omega)
  rw [rr k (t := ⟨f_is_fraction, _, _, _⟩) rfl]
  have no : ∀ d : D, [Ty.tuple].any (isTy d) = false → frD d = false := fun d hd => by cases d <;> first | rfl | cases hd
  cases ht : [Ty.tuple].any (isTy d) with
  | false =>
    rw [no d ht]
    simp (decide := true) only [runFd, f_is_fraction, EV, q_lcl, asgM, callM, callR, ioIx, argSls, argSl, ioSl, callE, putOuts, outsOf, goodArgs, ioAt, startS, Ob.val, List.set_cons_zero, List.set_cons_succ, List.length_cons, List.length_nil, Nat.reduceAdd, Nat.reduceSub, Nat.reduceLT, Nat.sub_self, List.replicate_zero, List.replicate_succ, List.cons_append, List.nil_append, List.append_nil, reduceIte, Option.map_some, Option.map_none, List.not_mem_nil, List.nodup_nil, if_true, if_false, Bool.false_eq_true, eq_self, or_self, or_false, false_or, Bool.not_true, Bool.not_false, List.map_cons, List.map_nil, decide_true, decide_false, ht]
  | true =>
    obtain ⟨xs, rfl⟩ : ∃ xs, d = .tuple xs := by cases d <;> first | exact ⟨_, rfl⟩ | cases ht
    by_cases hl : xs.length = 2
    · obtain ⟨a, b, rfl⟩ : ∃ a b, xs = [a, b] := by
        match xs, hl with
        | [a, b], _ => exact ⟨a, b, rfl⟩
      have ra := r_whole (k := k) (by omega) a
      have rb := r_whole (k := k) (by omega) b
      have l2 : bfD .len [.tuple [a, b]] = some (.sh (.int 2)) := rfl
      cases wa : whD a with
      | false =>
        have e : frD (.tuple [a, b]) = false := by cases a <;> first | rfl | cases wa
        rw [e]
        rw [wa] at ra
        simp (decide := true) only [runFd, f_is_fraction, EV, q_lcl, asgM, callM, callR, ioIx, argSls, argSl, ioSl, callE, putOuts, outsOf, goodArgs, ioAt, startS, Ob.val, List.set_cons_zero, List.set_cons_succ, List.length_cons, List.length_nil, Nat.reduceAdd, Nat.reduceSub, Nat.reduceLT, Nat.sub_self, List.replicate_zero, List.replicate_succ, List.cons_append, List.nil_append, List.append_nil, reduceIte, Option.map_some, Option.map_none, List.not_mem_nil, List.nodup_nil, if_true, if_false, Bool.false_eq_true, eq_self, or_self, or_false, false_or, Bool.not_true, Bool.not_false, List.map_cons, List.map_nil, decide_true, decide_false, tup_t, l2, k_ne, x2a, x2b, ra]
      | true =>
        cases wb : whD b with
        | false =>
          have e : frD (.tuple [a, b]) = false := by cases a <;> first | (cases b <;> first | rfl | cases wb) | cases wa
          rw [e]
          rw [wa] at ra
          rw [wb] at rb
          simp (decide := true) only [runFd, f_is_fraction, EV, q_lcl, asgM, callM, callR, ioIx, argSls, argSl, ioSl, callE, putOuts, outsOf, goodArgs, ioAt, startS, Ob.val, List.set_cons_zero, List.set_cons_succ, List.length_cons, List.length_nil, Nat.reduceAdd, Nat.reduceSub, Nat.reduceLT, Nat.sub_self, List.replicate_zero, List.replicate_succ, List.cons_append, List.nil_append, List.append_nil, reduceIte, Option.map_some, Option.map_none, List.not_mem_nil, List.nodup_nil, if_true, if_false, Bool.false_eq_true, eq_self, or_self, or_false, false_or, Bool.not_true, Bool.not_false, List.map_cons, List.map_nil, decide_true, decide_false, tup_t, l2, k_ne, x2a, x2b, ra, rb]
        | true =>
          obtain ⟨i, rfl⟩ : ∃ i, a = .int i := by cases a <;> first | exact ⟨_, rfl⟩ | cases wa
          obtain ⟨j, rfl⟩ : ∃ j, b = .int j := by cases b <;> first | exact ⟨_, rfl⟩ | cases wb
          rw [wa] at ra
          rw [wb] at rb
          show _ = CR.ok (.sh (.bool (decide (1 ≤ j) && decide (i.natAbs.gcd j.natAbs = 1)))) []
          by_cases c : 1 ≤ j
          · have d1 : decide (j < 1) = false := decide_eq_false (by omega)
            have r3 := gcd_of (k := k) (by omega) i j c
            have d2 : decide (((i.natAbs.gcd j.natAbs : Nat) : Int) = 1) = decide (i.natAbs.gcd j.natAbs = 1) := decide_eq_decide.mpr (by omega)
            rw [decide_eq_true c, Bool.true_and, ← d2]
            simp (decide := true) only [runFd, f_is_fraction, EV, q_lcl, asgM, callM, callR, ioIx, argSls, argSl, ioSl, callE, putOuts, outsOf, goodArgs, ioAt, startS, Ob.val, List.set_cons_zero, List.set_cons_succ, List.length_cons, List.length_nil, Nat.reduceAdd, Nat.reduceSub, Nat.reduceLT, Nat.sub_self, List.replicate_zero, List.replicate_succ, List.cons_append, List.nil_append, List.append_nil, reduceIte, Option.map_some, Option.map_none, List.not_mem_nil, List.nodup_nil, if_true, if_false, Bool.false_eq_true, eq_self, or_self, or_false, false_or, Bool.not_true, Bool.not_false, List.map_cons, List.map_nil, decide_true, decide_false, tup_t, l2, k_ne, x2a, x2b, ra, rb, k_lt, d1, r3, k_eq]
          · have d1 : decide (j < 1) = true := decide_eq_true (by omega)
            rw [decide_eq_false c, Bool.false_and]
            simp (decide := true) only [runFd, f_is_fraction, EV, q_lcl, asgM, callM, callR, ioIx, argSls, argSl, ioSl, callE, putOuts, outsOf, goodArgs, ioAt, startS, Ob.val, List.set_cons_zero, List.set_cons_succ, List.length_cons, List.length_nil, Nat.reduceAdd, Nat.reduceSub, Nat.reduceLT, Nat.sub_self, List.replicate_zero, List.replicate_succ, List.cons_append, List.nil_append, List.append_nil, reduceIte, Option.map_some, Option.map_none, List.not_mem_nil, List.nodup_nil, if_true, if_false, Bool.false_eq_true, eq_self, or_self, or_false, false_or, Bool.not_true, Bool.not_false, List.map_cons, List.map_nil, decide_true, decide_false, tup_t, l2, k_ne, x2a, x2b, ra, rb, k_lt, d1]
    · have e : frD (.tuple xs) = false := by
        match xs, hl with
        | [], _ => rfl
        | [a], _ => cases a <;> rfl
        | [a, b], h => exact absurd rfl h
        | a :: b :: c :: r, _ => cases a <;> cases b <;> rfl
      rw [e]
      have d1 : decide ((xs.length : Int) = 2) = false := decide_eq_false (by omega)
      simp (decide := true) only [runFd, f_is_fraction, EV, q_lcl, asgM, callM, callR, ioIx, argSls, argSl, ioSl, callE, putOuts, outsOf, goodArgs, ioAt, startS, Ob.val, List.set_cons_zero, List.set_cons_succ, List.length_cons, List.length_nil, Nat.reduceAdd, Nat.reduceSub, Nat.reduceLT, Nat.sub_self, List.replicate_zero, List.replicate_succ, List.cons_append, List.nil_append, List.append_nil, reduceIte, Option.map_some, Option.map_none, List.not_mem_nil, List.nodup_nil, if_true, if_false, Bool.false_eq_true, eq_self, or_self, or_false, false_or, Bool.not_true, Bool.not_false, List.map_cons, List.map_nil, decide_true, decide_false, tup_t, len_t, k_ne, d1]
theorem r_lfrac {k : Nat} (h : 2 ≤ k) (d : D) : (calAt g.pr k).run i__law_is_fraction [.sh d] = .ok (.sh (.bool (frD d))) [] := by
  obtain ⟨k, rfl⟩ := Nat.exists_eq_add_of_le' (show 1 ≤ k by omega)
  rw [rr k (t := ⟨f__law_is_fraction, _, _, _⟩) rfl]
  have no : ∀ d : D, [Ty.tuple].any (isTy d) = false → frD d = false := fun d hd => by cases d <;> first | rfl | cases hd
  cases ht : [Ty.tuple].any (isTy d) with
  | false =>
    rw [no d ht]
    simp (decide := true) only [runFd, f__law_is_fraction, EV, q_lcl, asgM, callM, callR, ioIx, argSls, argSl, ioSl, callE, putOuts, outsOf, goodArgs, ioAt, startS, Ob.val, List.set_cons_zero, List.set_cons_succ, List.length_cons, List.length_nil, Nat.reduceAdd, Nat.reduceSub, Nat.reduceLT, Nat.sub_self, List.replicate_zero, List.replicate_succ, List.cons_append, List.nil_append, List.append_nil, reduceIte, Option.map_some, Option.map_none, List.not_mem_nil, List.nodup_nil, if_true, if_false, Bool.false_eq_true, eq_self, or_self, or_false, false_or, Bool.not_true, Bool.not_false, List.map_cons, List.map_nil, decide_true, decide_false, ht]
  | true =>
    obtain ⟨xs, rfl⟩ : ∃ xs, d = .tuple xs := by cases d <;> first | exact ⟨_, rfl⟩ | cases ht
    by_cases hl : xs.length = 2
    · obtain ⟨a, b, rfl⟩ : ∃ a b, xs = [a, b] := by
        match xs, hl with
        | [a, b], _ => exact ⟨a, b, rfl⟩
      have l2 : bfD .len [.tuple [a, b]] = some (.sh (.int 2)) := rfl
      have sq : seqD (.tuple [a, b]) = some [a, b] := rfl
      have sa := ty_i a
      have sb := ty_i b
      have ta := ty_b a
      have tb := ty_b b
      cases wa : whD a with
      | false =>
        have e : frD (.tuple [a, b]) = false := by cases a <;> first | rfl | cases wa
        rw [e]
        rw [wa, Bool.false_or] at sa
        cases bo : isTy a .bool <;> rw [bo] at sa ta <;> simp (decide := true) only [runFd, f__law_is_fraction, EV, q_lcl, asgM, callM, callR, ioIx, argSls, argSl, ioSl, callE, putOuts, outsOf, goodArgs, ioAt, startS, Ob.val, List.set_cons_zero, List.set_cons_succ, List.length_cons, List.length_nil, Nat.reduceAdd, Nat.reduceSub, Nat.reduceLT, Nat.sub_self, List.replicate_zero, List.replicate_succ, List.cons_append, List.nil_append, List.append_nil, reduceIte, Option.map_some, Option.map_none, List.not_mem_nil, List.nodup_nil, if_true, if_false, Bool.false_eq_true, eq_self, or_self, or_false, false_or, Bool.not_true, Bool.not_false, List.map_cons, List.map_nil, decide_true, decide_false, q_fo, foGo_c, foGo_0, ok_n, q_pt, tup_t, l2, k_ne, sq, sa, ta]
      | true =>
        have ab : isTy a .bool = false := by cases a <;> first | rfl | cases wa
        rw [wa, Bool.true_or] at sa
        rw [ab] at ta
        cases wb : whD b with
        | false =>
          have e : frD (.tuple [a, b]) = false := by cases a <;> first | (cases b <;> first | rfl | cases wb) | cases wa
          rw [e]
          rw [wb, Bool.false_or] at sb
          cases bo : isTy b .bool <;> rw [bo] at sb tb <;> simp (decide := true) only [runFd, f__law_is_fraction, EV, q_lcl, asgM, callM, callR, ioIx, argSls, argSl, ioSl, callE, putOuts, outsOf, goodArgs, ioAt, startS, Ob.val, List.set_cons_zero, List.set_cons_succ, List.length_cons, List.length_nil, Nat.reduceAdd, Nat.reduceSub, Nat.reduceLT, Nat.sub_self, List.replicate_zero, List.replicate_succ, List.cons_append, List.nil_append, List.append_nil, reduceIte, Option.map_some, Option.map_none, List.not_mem_nil, List.nodup_nil, if_true, if_false, Bool.false_eq_true, eq_self, or_self, or_false, false_or, Bool.not_true, Bool.not_false, List.map_cons, List.map_nil, decide_true, decide_false, q_fo, foGo_c, foGo_0, ok_n, q_pt, tup_t, l2, k_ne, sq, sa, ta, sb, tb]
        | true =>
          have bb : isTy b .bool = false := by cases b <;> first | rfl | cases wb
          rw [wb, Bool.true_or] at sb
          rw [bb] at tb
          obtain ⟨i, rfl⟩ : ∃ i, a = .int i := by cases a <;> first | exact ⟨_, rfl⟩ | cases wa
          obtain ⟨j, rfl⟩ : ∃ j, b = .int j := by cases b <;> first | exact ⟨_, rfl⟩ | cases wb
          show _ = CR.ok (.sh (.bool (decide (1 ≤ j) && decide (i.natAbs.gcd j.natAbs = 1)))) []
          have r3 := r_ldivisor (k := k) (by omega) i j
          have d2 : decide (((i.natAbs.gcd j.natAbs : Nat) : Int) = 1) = decide (i.natAbs.gcd j.natAbs = 1) := decide_eq_decide.mpr (by omega)
          by_cases c : 1 ≤ j
          · have d1 : decide (0 < j) = true := decide_eq_true (by omega)
            rw [decide_eq_true c, Bool.true_and, ← d2]
            have ke := k_eq ((i.natAbs.gcd j.natAbs : Nat) : Int) 1
            generalize decide (((i.natAbs.gcd j.natAbs : Nat) : Int) = 1) = bz at *
            cases bz <;> simp (decide := true) only [runFd, f__law_is_fraction, EV, q_lcl, asgM, callM, callR, ioIx, argSls, argSl, ioSl, callE, putOuts, outsOf, goodArgs, ioAt, startS, Ob.val, List.set_cons_zero, List.set_cons_succ, List.length_cons, List.length_nil, Nat.reduceAdd, Nat.reduceSub, Nat.reduceLT, Nat.sub_self, List.replicate_zero, List.replicate_succ, List.cons_append, List.nil_append, List.append_nil, reduceIte, Option.map_some, Option.map_none, List.not_mem_nil, List.nodup_nil, if_true, if_false, Bool.false_eq_true, eq_self, or_self, or_false, false_or, Bool.not_true, Bool.not_false, List.map_cons, List.map_nil, decide_true, decide_false, q_fo, foGo_c, foGo_0, ok_n, q_pt, tup_t, l2, k_ne, sq, sa, ta, sb, tb, x2a, x2b, k_gt, d1, r3, ke]
          · have d1 : decide (0 < j) = false := decide_eq_false (by omega)
            rw [decide_eq_false c, Bool.false_and]
            simp (decide := true) only [runFd, f__law_is_fraction, EV, q_lcl, asgM, callM, callR, ioIx, argSls, argSl, ioSl, callE, putOuts, outsOf, goodArgs, ioAt, startS, Ob.val, List.set_cons_zero, List.set_cons_succ, List.length_cons, List.length_nil, Nat.reduceAdd, Nat.reduceSub, Nat.reduceLT, Nat.sub_self, List.replicate_zero, List.replicate_succ, List.cons_append, List.nil_append, List.append_nil, reduceIte, Option.map_some, Option.map_none, List.not_mem_nil, List.nodup_nil, if_true, if_false, Bool.false_eq_true, eq_self, or_self, or_false, false_or, Bool.not_true, Bool.not_false, List.map_cons, List.map_nil, decide_true, decide_false, q_fo, foGo_c, foGo_0, ok_n, q_pt, tup_t, l2, k_ne, sq, sa, ta, sb, tb, x2a, x2b, k_gt, d1]
    · have e : frD (.tuple xs) = false := by
        match xs, hl with
        | [], _ => rfl
        | [a], _ => cases a <;> rfl
        | [a, b], h => exact absurd rfl h
        | a :: b :: c :: r, _ => cases a <;> cases b <;> rfl
      rw [e]
      have d1 : decide ((xs.length : Int) = 2) = false := decide_eq_false (by omega)
      simp (decide := true) only [runFd, f__law_is_fraction, EV, q_lcl, asgM, callM, callR, ioIx, argSls, argSl, ioSl, callE, putOuts, outsOf, goodArgs, ioAt, startS, Ob.val, List.set_cons_zero, List.set_cons_succ, List.length_cons, List.length_nil, Nat.reduceAdd, Nat.reduceSub, Nat.reduceLT, Nat.sub_self, List.replicate_zero, List.replicate_succ, List.cons_append, List.nil_append, List.append_nil, reduceIte, Option.map_some, Option.map_none, List.not_mem_nil, List.nodup_nil, if_true, if_false, Bool.false_eq_true, eq_self, or_self, or_false, false_or, Bool.not_true, Bool.not_false, List.map_cons, List.map_nil, decide_true, decide_false, tup_t, len_t, k_ne, d1]
theorem fr_top {d : D} (h : frD d = true) : ixD d (.int 0) = some (.int (topD d)) := by
  unfold frD at h
  split at h
  · rfl
  · cases h
theorem r_above_ {k : Nat} (h : 3 ≤ k) (d : D) : (calAt g.pr k).run i_is_above [.sh d] = .ok (.sh (.bool (abD d))) [] := by
  obtain ⟨k, rfl⟩ := Nat.exists_eq_add_of_le' (show 1 ≤ k by omega)
  rw [rr k (t := ⟨f_is_above, _, _, _⟩) rfl]
  have r1 := r_frac (k := k) (by omega) d
  unfold abD
  cases hf : frD d with
  | false =>
    rw [hf] at r1
    simp (decide := true) only [runFd, f_is_above, EV, q_lcl, asgM, callM, callR, ioIx, argSls, argSl, ioSl, callE, putOuts, outsOf, goodArgs, ioAt, startS, Ob.val, List.set_cons_zero, List.set_cons_succ, List.length_cons, List.length_nil, Nat.reduceAdd, Nat.reduceSub, Nat.reduceLT, Nat.sub_self, List.replicate_zero, List.replicate_succ, List.cons_append, List.nil_append, List.append_nil, reduceIte, Option.map_some, Option.map_none, List.not_mem_nil, List.nodup_nil, if_true, if_false, Bool.false_eq_true, eq_self, or_self, or_false, false_or, Bool.not_true, Bool.not_false, List.map_cons, List.map_nil, decide_true, decide_false, r1, Bool.false_and]
  | true =>
    rw [hf] at r1
    have t := fr_top hf
    have kg := k_gt (topD d) 0
    generalize decide (0 < topD d) = bz at *
    cases bz <;> simp (decide := true) only [runFd, f_is_above, EV, q_lcl, asgM, callM, callR, ioIx, argSls, argSl, ioSl, callE, putOuts, outsOf, goodArgs, ioAt, startS, Ob.val, List.set_cons_zero, List.set_cons_succ, List.length_cons, List.length_nil, Nat.reduceAdd, Nat.reduceSub, Nat.reduceLT, Nat.sub_self, List.replicate_zero, List.replicate_succ, List.cons_append, List.nil_append, List.append_nil, reduceIte, Option.map_some, Option.map_none, List.not_mem_nil, List.nodup_nil, if_true, if_false, Bool.false_eq_true, eq_self, or_self, or_false, false_or, Bool.not_true, Bool.not_false, List.map_cons, List.map_nil, decide_true, decide_false, r1, Bool.true_and, t, kg]
theorem r_jt {k : Nat} (h : 2 ≤ k) (d : D) (n : Int) : (calAt g.pr k).run i_is_joint [.sh d, .sh (.int n)] = .ok (.sh (.bool (jtD n d))) [] := by
  obtain ⟨k, rfl⟩ := Nat.exists_eq_add_of_le' (show 1 ≤ k by omega)
  rw [rr k (t := ⟨f_is_joint, _, _, _⟩) rfl]
  have r1 := r_whole (k := k) (by omega) d
  cases hw : whD d with
  | false =>
    have e : jtD n d = false := by cases d <;> first | rfl | cases hw
    rw [hw] at r1
    rw [e]
    simp (decide := true) only [runFd, f_is_joint, EV, q_lcl, asgM, callM, callR, ioIx, argSls, argSl, ioSl, callE, putOuts, outsOf, goodArgs, ioAt, startS, Ob.val, List.set_cons_zero, List.set_cons_succ, List.length_cons, List.length_nil, Nat.reduceAdd, Nat.reduceSub, Nat.reduceLT, Nat.sub_self, List.replicate_zero, List.replicate_succ, List.cons_append, List.nil_append, List.append_nil, reduceIte, Option.map_some, Option.map_none, List.not_mem_nil, List.nodup_nil, if_true, if_false, Bool.false_eq_true, eq_self, or_self, or_false, false_or, Bool.not_true, Bool.not_false, List.map_cons, List.map_nil, decide_true, decide_false, r1]
  | true =>
    obtain ⟨i, rfl⟩ : ∃ i, d = .int i := by cases d <;> first | exact ⟨_, rfl⟩ | cases hw
    rw [hw] at r1
    show _ = CR.ok (.sh (.bool (decide (0 ≤ i) && decide (i < n)))) []
    by_cases c : 0 ≤ i
    · rw [decide_eq_true c, Bool.true_and]
      have d1 : decide (0 ≤ i) = true := decide_eq_true c
      have kl := k_lt i n
      generalize decide (i < n) = bz at *
      cases bz <;> simp (decide := true) only [runFd, f_is_joint, EV, q_lcl, asgM, callM, callR, ioIx, argSls, argSl, ioSl, callE, putOuts, outsOf, goodArgs, ioAt, startS, Ob.val, List.set_cons_zero, List.set_cons_succ, List.length_cons, List.length_nil, Nat.reduceAdd, Nat.reduceSub, Nat.reduceLT, Nat.sub_self, List.replicate_zero, List.replicate_succ, List.cons_append, List.nil_append, List.append_nil, reduceIte, Option.map_some, Option.map_none, List.not_mem_nil, List.nodup_nil, if_true, if_false, Bool.false_eq_true, eq_self, or_self, or_false, false_or, Bool.not_true, Bool.not_false, List.map_cons, List.map_nil, decide_true, decide_false, r1, k_le, d1, kl]
    · rw [decide_eq_false c, Bool.false_and]
      have d1 : decide (0 ≤ i) = false := decide_eq_false c
      simp (decide := true) only [runFd, f_is_joint, EV, q_lcl, asgM, callM, callR, ioIx, argSls, argSl, ioSl, callE, putOuts, outsOf, goodArgs, ioAt, startS, Ob.val, List.set_cons_zero, List.set_cons_succ, List.length_cons, List.length_nil, Nat.reduceAdd, Nat.reduceSub, Nat.reduceLT, Nat.sub_self, List.replicate_zero, List.replicate_succ, List.cons_append, List.nil_append, List.append_nil, reduceIte, Option.map_some, Option.map_none, List.not_mem_nil, List.nodup_nil, if_true, if_false, Bool.false_eq_true, eq_self, or_self, or_false, false_or, Bool.not_true, Bool.not_false, List.map_cons, List.map_nil, decide_true, decide_false, r1, k_le, d1]
theorem jt_int {n : Int} {d : D} (h : jtD n d = true) : ∃ i : Int, d = .int i ∧ 0 ≤ i ∧ i < n := by
  cases d with
  | int i =>
    have h : (decide (0 ≤ i) && decide (i < n)) = true := h
    rw [Bool.and_eq_true] at h
    exact ⟨i, rfl, of_decide_eq_true h.1, of_decide_eq_true h.2⟩
  | _ => cases h
theorem r_jts {k : Nat} (h : 3 ≤ k) (a b : D) (n : Int) : (calAt g.pr k).run i_are_joints [.sh a, .sh b, .sh (.int n)] = .ok (.sh (.bool (jtD n a && (jtD n b && unD a b)))) [] := by
  obtain ⟨k, rfl⟩ := Nat.exists_eq_add_of_le' (show 1 ≤ k by omega)
  rw [rr k (t := ⟨f_are_joints, _, _, _⟩) rfl]
  have r1 := r_jt (k := k) (by omega) a n
  have r2 := r_jt (k := k) (by omega) b n
  cases ha : jtD n a with
  | false =>
    rw [ha] at r1
    simp (decide := true) only [runFd, f_are_joints, EV, q_lcl, asgM, callM, callR, ioIx, argSls, argSl, ioSl, callE, putOuts, outsOf, goodArgs, ioAt, startS, Ob.val, List.set_cons_zero, List.set_cons_succ, List.length_cons, List.length_nil, Nat.reduceAdd, Nat.reduceSub, Nat.reduceLT, Nat.sub_self, List.replicate_zero, List.replicate_succ, List.cons_append, List.nil_append, List.append_nil, reduceIte, Option.map_some, Option.map_none, List.not_mem_nil, List.nodup_nil, if_true, if_false, Bool.false_eq_true, eq_self, or_self, or_false, false_or, Bool.not_true, Bool.not_false, List.map_cons, List.map_nil, decide_true, decide_false, r1, Bool.false_and]
  | true =>
    rw [ha] at r1
    cases hb : jtD n b with
    | false =>
      rw [hb] at r2
      simp (decide := true) only [runFd, f_are_joints, EV, q_lcl, asgM, callM, callR, ioIx, argSls, argSl, ioSl, callE, putOuts, outsOf, goodArgs, ioAt, startS, Ob.val, List.set_cons_zero, List.set_cons_succ, List.length_cons, List.length_nil, Nat.reduceAdd, Nat.reduceSub, Nat.reduceLT, Nat.sub_self, List.replicate_zero, List.replicate_succ, List.cons_append, List.nil_append, List.append_nil, reduceIte, Option.map_some, Option.map_none, List.not_mem_nil, List.nodup_nil, if_true, if_false, Bool.false_eq_true, eq_self, or_self, or_false, false_or, Bool.not_true, Bool.not_false, List.map_cons, List.map_nil, decide_true, decide_false, r1, r2, Bool.false_and, Bool.true_and]
    | true =>
      rw [hb] at r2
      obtain ⟨i, rfl, _⟩ := jt_int ha
      obtain ⟨j, rfl, _⟩ := jt_int hb
      have e : unD (.int i) (.int j) = !decide (i = j) := by
        show decide (i ≠ j) = _
        by_cases c : i = j <;> simp [c]
      rw [e]
      have kn := k_ne i j
      generalize decide (i = j) = bz at *
      cases bz <;> simp (decide := true) only [runFd, f_are_joints, EV, q_lcl, asgM, callM, callR, ioIx, argSls, argSl, ioSl, callE, putOuts, outsOf, goodArgs, ioAt, startS, Ob.val, List.set_cons_zero, List.set_cons_succ, List.length_cons, List.length_nil, Nat.reduceAdd, Nat.reduceSub, Nat.reduceLT, Nat.sub_self, List.replicate_zero, List.replicate_succ, List.cons_append, List.nil_append, List.append_nil, reduceIte, Option.map_some, Option.map_none, List.not_mem_nil, List.nodup_nil, if_true, if_false, Bool.false_eq_true, eq_self, or_self, or_false, false_or, Bool.not_true, Bool.not_false, List.map_cons, List.map_nil, decide_true, decide_false, r1, r2, kn, Bool.true_and]
/-! ### the law's joints -/
theorem ljt_turn {k : Nat} {x0 x2 : Sl} {n : Int} (d : D) : ∃ y2, ((putT (.name 2) d).bind fun _ => evSs (calAt g.pr k) [] b1__law_joints) [x0, .sh (.int n), x2] = .ok (if jtD n d then .nx else .rt (.sh (.bool false))) [x0, .sh (.int n), y2] := by
  refine ⟨.sh d, ?_⟩
  have s := ty_i d
  have t := ty_b d
  cases wd : whD d with
  | false =>
    have e : jtD n d = false := by cases d <;> first | rfl | cases wd
    rw [e]
    rw [wd, Bool.false_or] at s
    cases bo : isTy d .bool <;> rw [bo] at s t <;> simp (decide := true) only [EV, q_lcl, asgM, callM, callR, ioIx, argSls, argSl, ioSl, callE, putOuts, outsOf, goodArgs, ioAt, startS, Ob.val, List.set_cons_zero, List.set_cons_succ, List.length_cons, List.length_nil, Nat.reduceAdd, Nat.reduceSub, Nat.reduceLT, Nat.sub_self, List.replicate_zero, List.replicate_succ, List.cons_append, List.nil_append, List.append_nil, reduceIte, Option.map_some, Option.map_none, List.not_mem_nil, List.nodup_nil, if_true, if_false, Bool.false_eq_true, eq_self, or_self, or_false, false_or, Bool.not_true, Bool.not_false, List.map_cons, List.map_nil, decide_true, decide_false, q_pt, s, t]
  | true =>
    have bd : isTy d .bool = false := by cases d <;> first | rfl | cases wd
    rw [wd, Bool.true_or] at s
    rw [bd] at t
    obtain ⟨i, rfl⟩ : ∃ i, d = .int i := by cases d <;> first | exact ⟨_, rfl⟩ | cases wd
    have e : jtD n (.int i) = (decide (0 ≤ i) && decide (i < n)) := rfl
    rw [e]
    by_cases c : 0 ≤ i
    · have d1 : decide (0 ≤ i) = true := decide_eq_true c
      rw [d1, Bool.true_and]
      by_cases c2 : i < n
      · have d2 : decide (i < n) = true := decide_eq_true c2
        rw [d2]
        simp (decide := true) only [EV, q_lcl, asgM, callM, callR, ioIx, argSls, argSl, ioSl, callE, putOuts, outsOf, goodArgs, ioAt, startS, Ob.val, List.set_cons_zero, List.set_cons_succ, List.length_cons, List.length_nil, Nat.reduceAdd, Nat.reduceSub, Nat.reduceLT, Nat.sub_self, List.replicate_zero, List.replicate_succ, List.cons_append, List.nil_append, List.append_nil, reduceIte, Option.map_some, Option.map_none, List.not_mem_nil, List.nodup_nil, if_true, if_false, Bool.false_eq_true, eq_self, or_self, or_false, false_or, Bool.not_true, Bool.not_false, List.map_cons, List.map_nil, decide_true, decide_false, q_pt, s, t, k_le, d1, k_lt, d2]
      · have d2 : decide (i < n) = false := decide_eq_false c2
        rw [d2]
        simp (decide := true) only [EV, q_lcl, asgM, callM, callR, ioIx, argSls, argSl, ioSl, callE, putOuts, outsOf, goodArgs, ioAt, startS, Ob.val, List.set_cons_zero, List.set_cons_succ, List.length_cons, List.length_nil, Nat.reduceAdd, Nat.reduceSub, Nat.reduceLT, Nat.sub_self, List.replicate_zero, List.replicate_succ, List.cons_append, List.nil_append, List.append_nil, reduceIte, Option.map_some, Option.map_none, List.not_mem_nil, List.nodup_nil, if_true, if_false, Bool.false_eq_true, eq_self, or_self, or_false, false_or, Bool.not_true, Bool.not_false, List.map_cons, List.map_nil, decide_true, decide_false, q_pt, s, t, k_le, d1, k_lt, d2]
    · have d1 : decide (0 ≤ i) = false := decide_eq_false c
      rw [d1, Bool.false_and]
      simp (decide := true) only [EV, q_lcl, asgM, callM, callR, ioIx, argSls, argSl, ioSl, callE, putOuts, outsOf, goodArgs, ioAt, startS, Ob.val, List.set_cons_zero, List.set_cons_succ, List.length_cons, List.length_nil, Nat.reduceAdd, Nat.reduceSub, Nat.reduceLT, Nat.sub_self, List.replicate_zero, List.replicate_succ, List.cons_append, List.nil_append, List.append_nil, reduceIte, Option.map_some, Option.map_none, List.not_mem_nil, List.nodup_nil, if_true, if_false, Bool.false_eq_true, eq_self, or_self, or_false, false_or, Bool.not_true, Bool.not_false, List.map_cons, List.map_nil, decide_true, decide_false, q_pt, s, t, k_le, d1]
theorem r_lj1 {k : Nat} (h : 1 ≤ k) (a : D) (n : Int) : (calAt g.pr k).run i__law_joints [.sh (.tuple [a]), .sh (.int n)] = .ok (.sh (.bool (jtD n a))) [] := by
  obtain ⟨k, rfl⟩ := Nat.exists_eq_add_of_le' (show 1 ≤ k by omega)
  rw [rr k (t := ⟨f__law_joints, _, _, _⟩) rfl]
  have sq : seqD (.tuple [a]) = some [a] := rfl
  obtain ⟨y, e1⟩ := ljt_turn (k := k) (x0 := .sh (.tuple [a])) (x2 := .un) (n := n) a
  cases ha : jtD n a with
  | false =>
    rw [ha] at e1
    have lp : evS (calAt g.pr k) [] l0__law_joints [.sh (.tuple [a]), .sh (.int n), .un] = .ok (.rt (.sh (.bool false))) [.sh (.tuple [a]), .sh (.int n), y] := by
      refine fo_of rfl (by simp (decide := true) only [EV, q_lcl, asgM, callM, callR, ioIx, argSls, argSl, ioSl, callE, putOuts, outsOf, goodArgs, ioAt, startS, Ob.val, List.set_cons_zero, List.set_cons_succ, List.length_cons, List.length_nil, Nat.reduceAdd, Nat.reduceSub, Nat.reduceLT, Nat.sub_self, List.replicate_zero, List.replicate_succ, List.cons_append, List.nil_append, List.append_nil, reduceIte, Option.map_some, Option.map_none, List.not_mem_nil, List.nodup_nil, if_true, if_false, Bool.false_eq_true, eq_self, or_self, or_false, false_or, Bool.not_true, Bool.not_false, List.map_cons, List.map_nil, decide_true, decide_false, q_pt, sq] <;> rfl) ?_
      exact foGo_r e1
    simp (decide := true) only [runFd, f__law_joints, EV, q_lcl, asgM, callM, callR, ioIx, argSls, argSl, ioSl, callE, putOuts, outsOf, goodArgs, ioAt, startS, Ob.val, List.set_cons_zero, List.set_cons_succ, List.length_cons, List.length_nil, Nat.reduceAdd, Nat.reduceSub, Nat.reduceLT, Nat.sub_self, List.replicate_zero, List.replicate_succ, List.cons_append, List.nil_append, List.append_nil, reduceIte, Option.map_some, Option.map_none, List.not_mem_nil, List.nodup_nil, if_true, if_false, Bool.false_eq_true, eq_self, or_self, or_false, false_or, Bool.not_true, Bool.not_false, List.map_cons, List.map_nil, decide_true, decide_false, q_pt, lp]
  | true =>
    rw [ha] at e1
    have lp : evS (calAt g.pr k) [] l0__law_joints [.sh (.tuple [a]), .sh (.int n), .un] = .ok .nx [.sh (.tuple [a]), .sh (.int n), y] := by
      refine fo_of rfl (by simp (decide := true) only [EV, q_lcl, asgM, callM, callR, ioIx, argSls, argSl, ioSl, callE, putOuts, outsOf, goodArgs, ioAt, startS, Ob.val, List.set_cons_zero, List.set_cons_succ, List.length_cons, List.length_nil, Nat.reduceAdd, Nat.reduceSub, Nat.reduceLT, Nat.sub_self, List.replicate_zero, List.replicate_succ, List.cons_append, List.nil_append, List.append_nil, reduceIte, Option.map_some, Option.map_none, List.not_mem_nil, List.nodup_nil, if_true, if_false, Bool.false_eq_true, eq_self, or_self, or_false, false_or, Bool.not_true, Bool.not_false, List.map_cons, List.map_nil, decide_true, decide_false, q_pt, sq] <;> rfl) ?_
      rw [foGo_t e1]
      rfl
    obtain ⟨i, rfl, _⟩ := jt_int ha
    have ls : lsetD (.tuple [.int i]) = some (.sh (.int 1)) := rfl
    have l1 : bfD .len [.tuple [.int i]] = some (.sh (.int 1)) := rfl
    simp (decide := true) only [runFd, f__law_joints, EV, q_lcl, asgM, callM, callR, ioIx, argSls, argSl, ioSl, callE, putOuts, outsOf, goodArgs, ioAt, startS, Ob.val, List.set_cons_zero, List.set_cons_succ, List.length_cons, List.length_nil, Nat.reduceAdd, Nat.reduceSub, Nat.reduceLT, Nat.sub_self, List.replicate_zero, List.replicate_succ, List.cons_append, List.nil_append, List.append_nil, reduceIte, Option.map_some, Option.map_none, List.not_mem_nil, List.nodup_nil, if_true, if_false, Bool.false_eq_true, eq_self, or_self, or_false, false_or, Bool.not_true, Bool.not_false, List.map_cons, List.map_nil, decide_true, decide_false, q_pt, lp, ls, l1, k_eq]
theorem r_lj2 {k : Nat} (h : 1 ≤ k) (a b : D) (n : Int) : (calAt g.pr k).run i__law_joints [.sh (.tuple [a, b]), .sh (.int n)] = .ok (.sh (.bool (jtD n a && (jtD n b && unD a b)))) [] := by
  obtain ⟨k, rfl⟩ := Nat.exists_eq_add_of_le' (show 1 ≤ k by omega)
  rw [rr k (t := ⟨f__law_joints, _, _, _⟩) rfl]
  have sq : seqD (.tuple [a, b]) = some [a, b] := rfl
  obtain ⟨y, e1⟩ := ljt_turn (k := k) (x0 := .sh (.tuple [a, b])) (x2 := .un) (n := n) a
  obtain ⟨y2, e2⟩ := ljt_turn (k := k) (x0 := .sh (.tuple [a, b])) (x2 := y) (n := n) b
  cases ha : jtD n a with
  | false =>
    rw [ha] at e1
    have lp : evS (calAt g.pr k) [] l0__law_joints [.sh (.tuple [a, b]), .sh (.int n), .un] = .ok (.rt (.sh (.bool false))) [.sh (.tuple [a, b]), .sh (.int n), y] := by
      refine fo_of rfl (by simp (decide := true) only [EV, q_lcl, asgM, callM, callR, ioIx, argSls, argSl, ioSl, callE, putOuts, outsOf, goodArgs, ioAt, startS, Ob.val, List.set_cons_zero, List.set_cons_succ, List.length_cons, List.length_nil, Nat.reduceAdd, Nat.reduceSub, Nat.reduceLT, Nat.sub_self, List.replicate_zero, List.replicate_succ, List.cons_append, List.nil_append, List.append_nil, reduceIte, Option.map_some, Option.map_none, List.not_mem_nil, List.nodup_nil, if_true, if_false, Bool.false_eq_true, eq_self, or_self, or_false, false_or, Bool.not_true, Bool.not_false, List.map_cons, List.map_nil, decide_true, decide_false, q_pt, sq] <;> rfl) ?_
      exact foGo_r e1
    simp (decide := true) only [runFd, f__law_joints, EV, q_lcl, asgM, callM, callR, ioIx, argSls, argSl, ioSl, callE, putOuts, outsOf, goodArgs, ioAt, startS, Ob.val, List.set_cons_zero, List.set_cons_succ, List.length_cons, List.length_nil, Nat.reduceAdd, Nat.reduceSub, Nat.reduceLT, Nat.sub_self, List.replicate_zero, List.replicate_succ, List.cons_append, List.nil_append, List.append_nil, reduceIte, Option.map_some, Option.map_none, List.not_mem_nil, List.nodup_nil, if_true, if_false, Bool.false_eq_true, eq_self, or_self, or_false, false_or, Bool.not_true, Bool.not_false, List.map_cons, List.map_nil, decide_true, decide_false, q_pt, lp, Bool.false_and]
  | true =>
    rw [ha] at e1
    cases hb : jtD n b with
    | false =>
      rw [hb] at e2
      have lp : evS (calAt g.pr k) [] l0__law_joints [.sh (.tuple [a, b]), .sh (.int n), .un] = .ok (.rt (.sh (.bool false))) [.sh (.tuple [a, b]), .sh (.int n), y2] := by
        refine fo_of rfl (by simp (decide := true) only [EV, q_lcl, asgM, callM, callR, ioIx, argSls, argSl, ioSl, callE, putOuts, outsOf, goodArgs, ioAt, startS, Ob.val, List.set_cons_zero, List.set_cons_succ, List.length_cons, List.length_nil, Nat.reduceAdd, Nat.reduceSub, Nat.reduceLT, Nat.sub_self, List.replicate_zero, List.replicate_succ, List.cons_append, List.nil_append, List.append_nil, reduceIte, Option.map_some, Option.map_none, List.not_mem_nil, List.nodup_nil, if_true, if_false, Bool.false_eq_true, eq_self, or_self, or_false, false_or, Bool.not_true, Bool.not_false, List.map_cons, List.map_nil, decide_true, decide_false, q_pt, sq] <;> rfl) ?_
        rw [foGo_t e1]
        exact foGo_r e2
      simp (decide := true) only [runFd, f__law_joints, EV, q_lcl, asgM, callM, callR, ioIx, argSls, argSl, ioSl, callE, putOuts, outsOf, goodArgs, ioAt, startS, Ob.val, List.set_cons_zero, List.set_cons_succ, List.length_cons, List.length_nil, Nat.reduceAdd, Nat.reduceSub, Nat.reduceLT, Nat.sub_self, List.replicate_zero, List.replicate_succ, List.cons_append, List.nil_append, List.append_nil, reduceIte, Option.map_some, Option.map_none, List.not_mem_nil, List.nodup_nil, if_true, if_false, Bool.false_eq_true, eq_self, or_self, or_false, false_or, Bool.not_true, Bool.not_false, List.map_cons, List.map_nil, decide_true, decide_false, q_pt, lp, Bool.false_and, Bool.true_and]
    | true =>
      rw [hb] at e2
      have lp : evS (calAt g.pr k) [] l0__law_joints [.sh (.tuple [a, b]), .sh (.int n), .un] = .ok .nx [.sh (.tuple [a, b]), .sh (.int n), y2] := by
        refine fo_of rfl (by simp (decide := true) only [EV, q_lcl, asgM, callM, callR, ioIx, argSls, argSl, ioSl, callE, putOuts, outsOf, goodArgs, ioAt, startS, Ob.val, List.set_cons_zero, List.set_cons_succ, List.length_cons, List.length_nil, Nat.reduceAdd, Nat.reduceSub, Nat.reduceLT, Nat.sub_self, List.replicate_zero, List.replicate_succ, List.cons_append, List.nil_append, List.append_nil, reduceIte, Option.map_some, Option.map_none, List.not_mem_nil, List.nodup_nil, if_true, if_false, Bool.false_eq_true, eq_self, or_self, or_false, false_or, Bool.not_true, Bool.not_false, List.map_cons, List.map_nil, decide_true, decide_false, q_pt, sq] <;> rfl) ?_
        rw [foGo_t e1, foGo_t e2]
        rfl
      obtain ⟨i, rfl, _⟩ := jt_int ha
      obtain ⟨j, rfl, _⟩ := jt_int hb
      have l1 : bfD .len [.tuple [.int i, .int j]] = some (.sh (.int 2)) := rfl
      by_cases c : i = j
      · subst c
        have ls : lsetD (.tuple [.int i, .int i]) = some (.sh (.int 1)) := by
          show (if [i, i].length ≤ 1000 then some (Sl.sh (.int ((ddup [i, i]).length : Nat))) else none) = _
          rw [if_pos (show [i, i].length ≤ 1000 from Nat.le_of_ble_eq_true rfl)]
          unfold ddup
          rw [if_pos List.mem_cons_self] <;> rfl
        have u : unD (.int i) (.int i) = false := by
          show decide (i ≠ i) = false
          simp
        rw [u]
        simp (decide := true) only [runFd, f__law_joints, EV, q_lcl, asgM, callM, callR, ioIx, argSls, argSl, ioSl, callE, putOuts, outsOf, goodArgs, ioAt, startS, Ob.val, List.set_cons_zero, List.set_cons_succ, List.length_cons, List.length_nil, Nat.reduceAdd, Nat.reduceSub, Nat.reduceLT, Nat.sub_self, List.replicate_zero, List.replicate_succ, List.cons_append, List.nil_append, List.append_nil, reduceIte, Option.map_some, Option.map_none, List.not_mem_nil, List.nodup_nil, if_true, if_false, Bool.false_eq_true, eq_self, or_self, or_false, false_or, Bool.not_true, Bool.not_false, List.map_cons, List.map_nil, decide_true, decide_false, q_pt, lp, ls, l1, k_eq, Bool.true_and]
      · have ls : lsetD (.tuple [.int i, .int j]) = some (.sh (.int 2)) := by
          show (if [i, j].length ≤ 1000 then some (Sl.sh (.int ((ddup [i, j]).length : Nat))) else none) = _
          rw [if_pos (show [i, j].length ≤ 1000 from Nat.le_of_ble_eq_true rfl)]
          unfold ddup
          rw [if_neg (by simp [c])] <;> rfl
        have u : unD (.int i) (.int j) = true := decide_eq_true c
        rw [u]
        simp (decide := true) only [runFd, f__law_joints, EV, q_lcl, asgM, callM, callR, ioIx, argSls, argSl, ioSl, callE, putOuts, outsOf, goodArgs, ioAt, startS, Ob.val, List.set_cons_zero, List.set_cons_succ, List.length_cons, List.length_nil, Nat.reduceAdd, Nat.reduceSub, Nat.reduceLT, Nat.sub_self, List.replicate_zero, List.replicate_succ, List.cons_append, List.nil_append, List.append_nil, reduceIte, Option.map_some, Option.map_none, List.not_mem_nil, List.nodup_nil, if_true, if_false, Bool.false_eq_true, eq_self, or_self, or_false, false_or, Bool.not_true, Bool.not_false, List.map_cons, List.map_nil, decide_true, decide_false, q_pt, lp, ls, l1, k_eq, Bool.true_and]
end Lw
set_option Elab.async false
set_option linter.all false
set_option maxRecDepth 100000
set_option maxHeartbeats 400000
/-! Law k41: a step. -/
namespace Lw
open PySem Hg
abbrev tabL : List (Str × Int) := [("fix", 3), ("crank", 3), ("pair", 6), ("like", 5)]
theorem str_eq {s : Str} (h : SeqAt.shaped (.str s) = true) (x : Str) (hx : SeqAt.shaped (.str x) = true) : cmpD .Eq (.str s) (.str x) = some (decide (s = x)) := by
  show (if SeqAt.shaped (.str s) && SeqAt.shaped (.str x) then some (PyData.eqv (.str s) (.str x)) else none) = _
  rw [h, hx]
  have e : PyData.eqv (.str s) (.str x) = decide (s = x) := by
    simp [PyData.eqv]
    rfl
  rw [e]
  rfl
theorem sh_fix : SeqAt.shaped (.str "fix") = true := by kernel_rfl
theorem sh_crank : SeqAt.shaped (.str "crank") = true := by kernel_rfl
theorem sh_like : SeqAt.shaped (.str "like") = true := by kernel_rfl
theorem sh_pair : SeqAt.shaped (.str "pair") = true := by kernel_rfl
theorem sh_head {x : D} {xs : List D} (h : SeqAt.shaped (.tuple (x :: xs)) = true) : SeqAt.shaped x = true := by
  have h1 := SeqAt.canLay_of_shaped h
  have h2 := SeqAt.depth_of_shaped h
  have e : (PyData.tuple (x :: xs)).canLay0 = (x.canLay0 && PyData.canLayAll0 xs) := rfl
  rw [e, Bool.and_eq_true] at h1
  have d : (PyData.tuple (x :: xs)).depth = max x.depth (PyData.depthAll xs) + 1 := rfl
  rw [d] at h2
  have h3 := Nat.le_max_left x.depth (PyData.depthAll xs)
  show (x.canLay0 && decide (x.depth ≤ 64)) = true
  rw [h1.1, decide_eq_true (show x.depth ≤ 64 by omega)] <;> rfl
theorem e_tup {x : D} {xs : List D} (h : SeqAt.shaped (.tuple (x :: xs)) = true) : cmpD .Eq (.tuple (x :: xs)) (.tuple []) = some false := by
  show (if SeqAt.shaped (.tuple (x :: xs)) && SeqAt.shaped (.tuple []) then some (PyData.eqv (.tuple (x :: xs)) (.tuple [])) else none) = _
  rw [h]
  have e : PyData.eqv (.tuple (x :: xs)) (.tuple []) = false := by simp [PyData.eqv, PyData.eqvAll]
  rw [e]
  rfl
theorem e_nil : cmpD .Eq (.tuple []) (.tuple []) = some true := by kernel_rfl
theorem ty_s (x : Str) : [Ty.str].any (isTy (.str x)) = true := rfl
theorem head0 (x : D) (xs : List D) : ixD (.tuple (x :: xs)) (.int 0) = some x := L2.atI_nat (xs := x :: xs) (j := 0) rfl
/-- what stands ahead -/
def Ah (ah : List D) : Prop := ∀ d ∈ ah, ∃ s r, d = .tuple (.str s :: r) ∧ SeqAt.shaped (.str s) = true
theorem ah_at {ah : List D} (H : Ah ah) {i : Int} (h0 : 0 ≤ i) (h1 : i < ah.length) : ∃ s r, ixD (.tuple ah) (.int i) = some (.tuple (.str s :: r)) ∧ SeqAt.shaped (.str s) = true ∧ fixAt ah (.int i) = decide (s = "fix") := by
  have hl : i.toNat < ah.length := by omega
  obtain ⟨s, r, e, hs⟩ := H ah[i.toNat] (List.getElem_mem hl)
  refine ⟨s, r, ?_, hs, ?_⟩
  · have z := L2.atI_nat (xs := ah) (j := i.toNat) (v := .tuple (.str s :: r)) (by rw [List.getElem?_eq_getElem hl, e])
    have ei : ((i.toNat : Nat) : Int) = i := by omega
    rw [ei] at z
    exact z
  · show (match ah[i.toNat]? with
      | some d => isFix d
      | none => false) = _
    rw [List.getElem?_eq_getElem hl]
    show isFix ah[i.toNat] = _
    rw [e]
    rfl
/-- a thing that may be looked at as a step -/
def Sp (d : D) : Prop := ∀ ys, d = .tuple ys → SeqAt.shaped d = true
theorem not_tup {d : D} (h : [Ty.tuple].any (isTy d) = false) (ah : List D) : stD ah d = false := by cases d <;> first | rfl | cases h
theorem tab_at (s : Str) (hf : s ≠ "fix") (hc : s ≠ "crank") (hp : s ≠ "pair") (hl : s ≠ "like") : cgetD tabL (.str s) = some (.sh .none) := by
  have e : tabL.lookup s = none := by
    unfold tabL
    have b : ∀ x : Str, s ≠ x → (s == x) = false := fun x h => beq_eq_false_iff_ne.mpr h
    simp only [List.lookup, b _ hf, b _ hc, b _ hp, b _ hl]
  show some (Sl.sh (match tabL.lookup s with
    | some i => .int i
    | none => .none)) = _
  rw [e]
theorem t_f : cgetD tabL (.str "fix") = some (.sh (.int 3)) := by kernel_rfl
theorem t_c : cgetD tabL (.str "crank") = some (.sh (.int 3)) := by kernel_rfl
theorem t_p : cgetD tabL (.str "pair") = some (.sh (.int 6)) := by kernel_rfl
theorem t_l : cgetD tabL (.str "like") = some (.sh (.int 5)) := by kernel_rfl
theorem n_non (j : Int) : cmpD .NotEq .none (.int j) = some true := rfl
theorem w_ff : cmpD .Eq (.str "fix") (.str "fix") = some true := by kernel_rfl
theorem w_cf : cmpD .Eq (.str "crank") (.str "fix") = some false := by kernel_rfl
theorem w_cc : cmpD .Eq (.str "crank") (.str "crank") = some true := by kernel_rfl
theorem w_pf : cmpD .Eq (.str "pair") (.str "fix") = some false := by kernel_rfl
theorem w_pc : cmpD .Eq (.str "pair") (.str "crank") = some false := by kernel_rfl
theorem w_pl : cmpD .Eq (.str "pair") (.str "like") = some false := by kernel_rfl
theorem w_pp : cmpD .Eq (.str "pair") (.str "pair") = some true := by kernel_rfl
theorem w_lf : cmpD .Eq (.str "like") (.str "fix") = some false := by kernel_rfl
theorem w_lc : cmpD .Eq (.str "like") (.str "crank") = some false := by kernel_rfl
theorem w_ll : cmpD .Eq (.str "like") (.str "like") = some true := by kernel_rfl
theorem w_lp : cmpD .Eq (.str "like") (.str "pair") = some false := by kernel_rfl
theorem i_pair : cmpD .NotIn (.str "pair") (.tuple [.str "pair", .str "like"]) = some false := by kernel_rfl
theorem i_like : cmpD .NotIn (.str "like") (.tuple [.str "pair", .str "like"]) = some false := by kernel_rfl
theorem i_else {s : Str} (h : SeqAt.shaped (.str s) = true) (hp : s ≠ "pair") (hl : s ≠ "like") : cmpD .NotIn (.str s) (.tuple [.str "pair", .str "like"]) = some true := by
  have sh2 : SeqAt.shaped (.tuple [.str "pair", .str "like"]) = true := by kernel_rfl
  show (if SeqAt.shaped (.str s) && SeqAt.shaped (.tuple [.str "pair", .str "like"]) then some (!([PyData.str "pair", PyData.str "like"].any fun z => PyData.eqv z (.str s))) else none) = _
  rw [h, sh2]
  have e : ∀ x : Str, s ≠ x → PyData.eqv (.str x) (.str s) = false := fun x hx => by
    simp [PyData.eqv]
    exact fun z => hx z.symm
  simp [e _ hp, e _ hl]
theorem x3 (a b c : D) : ixD (.tuple [a, b, c]) (.int 0) = some a ∧ ixD (.tuple [a, b, c]) (.int 1) = some b ∧ ixD (.tuple [a, b, c]) (.int 2) = some c := ⟨rfl, rfl, rfl⟩
theorem x5 (a b c d e : D) : ixD (.tuple [a, b, c, d, e]) (.int 0) = some a ∧ ixD (.tuple [a, b, c, d, e]) (.int 1) = some b ∧ ixD (.tuple [a, b, c, d, e]) (.int 2) = some c ∧ ixD (.tuple [a, b, c, d, e]) (.int 3) = some d ∧ ixD (.tuple [a, b, c, d, e]) (.int 4) = some e := ⟨rfl, rfl, rfl, rfl, rfl⟩
theorem x6 (a b c d e f : D) : ixD (.tuple [a, b, c, d, e, f]) (.int 0) = some a ∧ ixD (.tuple [a, b, c, d, e, f]) (.int 1) = some b ∧ ixD (.tuple [a, b, c, d, e, f]) (.int 2) = some c ∧ ixD (.tuple [a, b, c, d, e, f]) (.int 3) = some d ∧ ixD (.tuple [a, b, c, d, e, f]) (.int 4) = some e ∧ ixD (.tuple [a, b, c, d, e, f]) (.int 5) = some f := ⟨rfl, rfl, rfl, rfl, rfl, rfl⟩
theorem l3 (a b c : D) : bfD .len [.tuple [a, b, c]] = some (.sh (.int 3)) := rfl
theorem l5 (a b c d e : D) : bfD .len [.tuple [a, b, c, d, e]] = some (.sh (.int 5)) := rfl
theorem l6 (a b c d e f : D) : bfD .len [.tuple [a, b, c, d, e, f]] = some (.sh (.int 6)) := rfl
/-- the five ways of a head -/
theorem word (s : Str) : s = "fix" ∨ s = "crank" ∨ s = "like" ∨ s = "pair" ∨ (s ≠ "fix" ∧ s ≠ "crank" ∧ s ≠ "pair" ∧ s ≠ "like") := by
  by_cases h1 : s = "fix"
  · exact .inl h1
  · by_cases h2 : s = "crank"
    · exact .inr (.inl h2)
    · by_cases h3 : s = "like"
      · exact .inr (.inr (.inl h3))
      · by_cases h4 : s = "pair"
        · exact .inr (.inr (.inr (.inl h4)))
        · exact .inr (.inr (.inr (.inr ⟨h1, h2, h4, h3⟩)))
theorem len_ne {r : List D} {n : Int} (h : n ≠ ((r.length + 1 : Nat) : Int)) : (n = ((r.length + 1 : Nat) : Int)) = False ∧ (((r.length + 1 : Nat) : Int) = n) = False := ⟨eq_false h, eq_false fun z => h z.symm⟩
theorem st_fix {ah r : List D} (h : r.length ≠ 2) : stD ah (.tuple (.str "fix" :: r)) = false := by
  unfold stD
  simp only []
  rw [if_pos trivial]
  match r, h with
  | [], _ => rfl
  | [a], _ => rfl
  | [a, b], h => exact absurd rfl h
  | a :: b :: c :: t, _ => rfl
theorem st_crank {ah r : List D} (h : r.length ≠ 2) : stD ah (.tuple (.str "crank" :: r)) = false := by
  unfold stD
  simp only []
  rw [if_neg (by decide +kernel), if_pos trivial]
  match r, h with
  | [], _ => rfl
  | [a], _ => rfl
  | [a, b], h => exact absurd rfl h
  | a :: b :: c :: t, _ => rfl
theorem st_like {ah r : List D} (h : r.length ≠ 4) : stD ah (.tuple (.str "like" :: r)) = false := by
  unfold stD
  simp only []
  rw [if_neg (by decide +kernel), if_neg (by decide +kernel), if_pos trivial]
  match r, h with
  | [], _ => rfl
  | [a], _ => rfl
  | [a, b], _ => rfl
  | [a, b, c], _ => rfl
  | [a, b, c, d], h => exact absurd rfl h
  | a :: b :: c :: d :: e :: t, _ => rfl
theorem st_pair {ah r : List D} (h : r.length ≠ 5) : stD ah (.tuple (.str "pair" :: r)) = false := by
  unfold stD
  simp only []
  rw [if_neg (by decide +kernel), if_neg (by decide +kernel), if_neg (by decide +kernel), if_pos trivial]
  match r, h with
  | [], _ => rfl
  | [a], _ => rfl
  | [a, b], _ => rfl
  | [a, b, c], _ => rfl
  | [a, b, c, d], _ => rfl
  | [a, b, c, d, e], h => exact absurd rfl h
  | a :: b :: c :: d :: e :: f :: t, _ => rfl
theorem st_else {ah r : List D} {s : Str} (h : s ≠ "fix" ∧ s ≠ "crank" ∧ s ≠ "pair" ∧ s ≠ "like") : stD ah (.tuple (.str s :: r)) = false := by
  unfold stD
  simp only []
  rw [if_neg h.1, if_neg h.2.1, if_neg h.2.2.2, if_neg h.2.2.1]
theorem not_str {x : D} (h : [Ty.str].any (isTy x) = false) (ah r : List D) : stD ah (.tuple (x :: r)) = false := by cases x <;> first | rfl | cases h
theorem crank_is (ah : List D) (a b : D) : stD ah (.tuple [.str "crank", a, b]) = (jtD ah.length a && (fixAt ah a && abD b)) := by
  unfold stD
  simp only []
  rw [if_neg (by decide +kernel), if_pos trivial]
theorem like_is (ah : List D) (a b c d : D) : stD ah (.tuple [.str "like", a, b, c, d]) = (jtD ah.length a && (jtD ah.length b && (unD a b && (frD c && frD d)))) := by
  unfold stD
  simp only []
  rw [if_neg (by decide +kernel), if_neg (by decide +kernel), if_pos trivial]
theorem pair_is (ah : List D) (a b c d e : D) : stD ah (.tuple [.str "pair", a, b, c, d, e]) = (jtD ah.length a && (jtD ah.length b && (unD a b && (abD c && (abD d && sdD e))))) := by
  unfold stD
  simp only []
  rw [if_neg (by decide +kernel), if_neg (by decide +kernel), if_neg (by decide +kernel), if_pos trivial]
theorem like_as (ah : List D) (a b c d : D) : stD ah (.tuple [.str "like", a, b, c, d]) = ((jtD ah.length a && (jtD ah.length b && unD a b)) && (frD c && frD d)) := by
  rw [like_is, Bool.and_assoc, Bool.and_assoc]
theorem pair_as (ah : List D) (a b c d e : D) : stD ah (.tuple [.str "pair", a, b, c, d, e]) = ((jtD ah.length a && (jtD ah.length b && unD a b)) && (abD c && (abD d && sdD e))) := by
  rw [pair_is, Bool.and_assoc, Bool.and_assoc]
theorem len_a (ah : List D) : bfD .len [.tuple ah] = some (.sh (.int (ah.length : Int))) := rfl
theorem r_step {k : Nat} (h : 5 ≤ k) {ah : List D} (H : Ah ah) (d : D) (hd : Sp d) : (calAt g.pr k).run i_is_step [.sh d, .sh (.tuple ah)] = .ok (.sh (.bool (stD ah d))) [] := by
  obtain ⟨k, rfl⟩ := Nat.exists_eq_add_of_le' (show 1 ≤ k by omega)
  rw [rr k (t := ⟨f_is_step, _, _, _⟩) rfl]
  cases ht : [Ty.tuple].any (isTy d) with
  | false =>
    rw [not_tup ht]
    simp (decide := true) only [runFd, f_is_step, EV, q_lcl, asgM, callM, callR, ioIx, argSls, argSl, ioSl, callE, putOuts, outsOf, goodArgs, ioAt, startS, Ob.val, List.set_cons_zero, List.set_cons_succ, List.length_cons, List.length_nil, Nat.reduceAdd, Nat.reduceSub, Nat.reduceLT, Nat.sub_self, List.replicate_zero, List.replicate_succ, List.cons_append, List.nil_append, List.append_nil, reduceIte, Option.map_some, Option.map_none, List.not_mem_nil, List.nodup_nil, if_true, if_false, Bool.false_eq_true, eq_self, or_self, or_false, false_or, Bool.not_true, Bool.not_false, List.map_cons, List.map_nil, decide_true, decide_false, ht]
  | true =>
    obtain ⟨xs, rfl⟩ : ∃ xs, d = .tuple xs := by cases d <;> first | exact ⟨_, rfl⟩ | cases ht
    have sh := hd xs rfl
    match xs, sh with
    | [], _ =>
      have e : stD ah (.tuple []) = false := rfl
      rw [e]
      simp (decide := true) only [runFd, f_is_step, EV, q_lcl, asgM, callM, callR, ioIx, argSls, argSl, ioSl, callE, putOuts, outsOf, goodArgs, ioAt, startS, Ob.val, List.set_cons_zero, List.set_cons_succ, List.length_cons, List.length_nil, Nat.reduceAdd, Nat.reduceSub, Nat.reduceLT, Nat.sub_self, List.replicate_zero, List.replicate_succ, List.cons_append, List.nil_append, List.append_nil, reduceIte, Option.map_some, Option.map_none, List.not_mem_nil, List.nodup_nil, if_true, if_false, Bool.false_eq_true, eq_self, or_self, or_false, false_or, Bool.not_true, Bool.not_false, List.map_cons, List.map_nil, decide_true, decide_false, tup_t, e_nil]
    | x :: r, sh =>
      have et := e_tup sh
      have sx := sh_head sh
      cases hs : [Ty.str].any (isTy x) with
      | false =>
        rw [not_str hs]
        simp (decide := true) only [runFd, f_is_step, EV, q_lcl, asgM, callM, callR, ioIx, argSls, argSl, ioSl, callE, putOuts, outsOf, goodArgs, ioAt, startS, Ob.val, List.set_cons_zero, List.set_cons_succ, List.length_cons, List.length_nil, Nat.reduceAdd, Nat.reduceSub, Nat.reduceLT, Nat.sub_self, List.replicate_zero, List.replicate_succ, List.cons_append, List.nil_append, List.append_nil, reduceIte, Option.map_some, Option.map_none, List.not_mem_nil, List.nodup_nil, if_true, if_false, Bool.false_eq_true, eq_self, or_self, or_false, false_or, Bool.not_true, Bool.not_false, List.map_cons, List.map_nil, decide_true, decide_false, tup_t, et, head0, hs]
      | true =>
        obtain ⟨s, rfl⟩ : ∃ s, x = .str s := by cases x <;> first | exact ⟨_, rfl⟩ | cases hs
        rcases word s with rfl | rfl | rfl | rfl | hw
        · by_cases hl : r.length = 2
          · obtain ⟨a, b, rfl⟩ : ∃ a b, r = [a, b] := by
              match r, hl with
              | [a, b], _ => exact ⟨a, b, rfl⟩
            have r1 := r_frac (k := k) (by omega) a
            have r2 := r_frac (k := k) (by omega) b
            have e : stD ah (.tuple [.str "fix", a, b]) = (frD a && frD b) := rfl
            rw [e]
            have q := x3 (.str "fix") a b
            cases ha : frD a <;> cases hb : frD b <;> rw [ha] at r1 <;> rw [hb] at r2 <;> simp (decide := true) only [runFd, f_is_step, EV, q_lcl, asgM, callM, callR, ioIx, argSls, argSl, ioSl, callE, putOuts, outsOf, goodArgs, ioAt, startS, Ob.val, List.set_cons_zero, List.set_cons_succ, List.length_cons, List.length_nil, Nat.reduceAdd, Nat.reduceSub, Nat.reduceLT, Nat.sub_self, List.replicate_zero, List.replicate_succ, List.cons_append, List.nil_append, List.append_nil, reduceIte, Option.map_some, Option.map_none, List.not_mem_nil, List.nodup_nil, if_true, if_false, Bool.false_eq_true, eq_self, or_self, or_false, false_or, Bool.not_true, Bool.not_false, List.map_cons, List.map_nil, decide_true, decide_false, tup_t, et, ty_s, t_f, l3, k_ne, w_ff, q.1, q.2.1, q.2.2, r1, r2] <;> rfl
          · rw [st_fix hl]
            obtain ⟨n1, n2⟩ := len_ne (r := r) (n := 3) (by omega)
            simp (decide := true) only [runFd, f_is_step, EV, q_lcl, asgM, callM, callR, ioIx, argSls, argSl, ioSl, callE, putOuts, outsOf, goodArgs, ioAt, startS, Ob.val, List.set_cons_zero, List.set_cons_succ, List.length_cons, List.length_nil, Nat.reduceAdd, Nat.reduceSub, Nat.reduceLT, Nat.sub_self, List.replicate_zero, List.replicate_succ, List.cons_append, List.nil_append, List.append_nil, reduceIte, Option.map_some, Option.map_none, List.not_mem_nil, List.nodup_nil, if_true, if_false, Bool.false_eq_true, eq_self, or_self, or_false, false_or, Bool.not_true, Bool.not_false, List.map_cons, List.map_nil, decide_true, decide_false, tup_t, et, head0, ty_s, t_f, len_t, n1]
        · by_cases hl : r.length = 2
          · obtain ⟨a, b, rfl⟩ : ∃ a b, r = [a, b] := by
              match r, hl with
              | [a, b], _ => exact ⟨a, b, rfl⟩
            have r1 := r_jt (k := k) (by omega) a ah.length
            have r2 := r_above_ (k := k) (by omega) b
            rw [crank_is]
            have q := x3 (.str "crank") a b
            cases ha : jtD ah.length a with
            | false =>
              rw [ha] at r1
              simp (decide := true) only [runFd, f_is_step, EV, q_lcl, asgM, callM, callR, ioIx, argSls, argSl, ioSl, callE, putOuts, outsOf, goodArgs, ioAt, startS, Ob.val, List.set_cons_zero, List.set_cons_succ, List.length_cons, List.length_nil, Nat.reduceAdd, Nat.reduceSub, Nat.reduceLT, Nat.sub_self, List.replicate_zero, List.replicate_succ, List.cons_append, List.nil_append, List.append_nil, reduceIte, Option.map_some, Option.map_none, List.not_mem_nil, List.nodup_nil, if_true, if_false, Bool.false_eq_true, eq_self, or_self, or_false, false_or, Bool.not_true, Bool.not_false, List.map_cons, List.map_nil, decide_true, decide_false, tup_t, et, ty_s, t_c, l3, k_ne, w_cf, w_cc, q.1, q.2.1, q.2.2, len_t, r1, Bool.false_and]
            | true =>
              rw [ha] at r1
              obtain ⟨i, rfl, i0, i1⟩ := jt_int ha
              obtain ⟨s, r, e1, s1, e2⟩ := ah_at H i0 i1
              have e3 := str_eq s1 "fix" sh_fix
              cases hf : fixAt ah (.int i) with
              | false =>
                rw [hf] at e2
                rw [← e2] at e3
                simp (decide := true) only [runFd, f_is_step, EV, q_lcl, asgM, callM, callR, ioIx, argSls, argSl, ioSl, callE, putOuts, outsOf, goodArgs, ioAt, startS, Ob.val, List.set_cons_zero, List.set_cons_succ, List.length_cons, List.length_nil, Nat.reduceAdd, Nat.reduceSub, Nat.reduceLT, Nat.sub_self, List.replicate_zero, List.replicate_succ, List.cons_append, List.nil_append, List.append_nil, reduceIte, Option.map_some, Option.map_none, List.not_mem_nil, List.nodup_nil, if_true, if_false, Bool.false_eq_true, eq_self, or_self, or_false, false_or, Bool.not_true, Bool.not_false, List.map_cons, List.map_nil, decide_true, decide_false, tup_t, et, ty_s, t_c, l3, k_ne, w_cf, w_cc, q.1, q.2.1, q.2.2, len_t, r1, e1, head0, e3, Bool.false_and, Bool.true_and]
              | true =>
                rw [hf] at e2
                rw [← e2] at e3
                cases hb : abD b <;> rw [hb] at r2 <;> simp (decide := true) only [runFd, f_is_step, EV, q_lcl, asgM, callM, callR, ioIx, argSls, argSl, ioSl, callE, putOuts, outsOf, goodArgs, ioAt, startS, Ob.val, List.set_cons_zero, List.set_cons_succ, List.length_cons, List.length_nil, Nat.reduceAdd, Nat.reduceSub, Nat.reduceLT, Nat.sub_self, List.replicate_zero, List.replicate_succ, List.cons_append, List.nil_append, List.append_nil, reduceIte, Option.map_some, Option.map_none, List.not_mem_nil, List.nodup_nil, if_true, if_false, Bool.false_eq_true, eq_self, or_self, or_false, false_or, Bool.not_true, Bool.not_false, List.map_cons, List.map_nil, decide_true, decide_false, tup_t, et, ty_s, t_c, l3, k_ne, w_cf, w_cc, q.1, q.2.1, q.2.2, len_t, r1, e1, head0, e3, r2, Bool.true_and]
          · rw [st_crank hl]
            obtain ⟨n1, n2⟩ := len_ne (r := r) (n := 3) (by omega)
            simp (decide := true) only [runFd, f_is_step, EV, q_lcl, asgM, callM, callR, ioIx, argSls, argSl, ioSl, callE, putOuts, outsOf, goodArgs, ioAt, startS, Ob.val, List.set_cons_zero, List.set_cons_succ, List.length_cons, List.length_nil, Nat.reduceAdd, Nat.reduceSub, Nat.reduceLT, Nat.sub_self, List.replicate_zero, List.replicate_succ, List.cons_append, List.nil_append, List.append_nil, reduceIte, Option.map_some, Option.map_none, List.not_mem_nil, List.nodup_nil, if_true, if_false, Bool.false_eq_true, eq_self, or_self, or_false, false_or, Bool.not_true, Bool.not_false, List.map_cons, List.map_nil, decide_true, decide_false, tup_t, et, head0, ty_s, t_c, len_t, n1]
        · by_cases hl : r.length = 4
          · obtain ⟨a, b, c, d, rfl⟩ : ∃ a b c d, r = [a, b, c, d] := by
              match r, hl with
              | [a, b, c, d], _ => exact ⟨a, b, c, d, rfl⟩
            have r1 := r_jts (k := k) (by omega) a b ah.length
            have r2 := r_frac (k := k) (by omega) c
            have r3 := r_frac (k := k) (by omega) d
            rw [like_as]
            have q := x5 (.str "like") a b c d
            cases ha : (jtD ah.length a && (jtD ah.length b && unD a b)) with
            | false =>
              rw [ha] at r1
              simp (decide := true) only [runFd, f_is_step, EV, q_lcl, asgM, callM, callR, ioIx, argSls, argSl, ioSl, callE, putOuts, outsOf, goodArgs, ioAt, startS, Ob.val, List.set_cons_zero, List.set_cons_succ, List.length_cons, List.length_nil, Nat.reduceAdd, Nat.reduceSub, Nat.reduceLT, Nat.sub_self, List.replicate_zero, List.replicate_succ, List.cons_append, List.nil_append, List.append_nil, reduceIte, Option.map_some, Option.map_none, List.not_mem_nil, List.nodup_nil, if_true, if_false, Bool.false_eq_true, eq_self, or_self, or_false, false_or, Bool.not_true, Bool.not_false, List.map_cons, List.map_nil, decide_true, decide_false, tup_t, et, ty_s, t_l, l5, k_ne, w_lf, w_lc, q.1, q.2.1, q.2.2.1, len_t, r1, Bool.false_and]
            | true =>
              rw [ha] at r1
              cases hc : frD c <;> cases hd : frD d <;> rw [hc] at r2 <;> rw [hd] at r3 <;> simp (decide := true) only [runFd, f_is_step, EV, q_lcl, asgM, callM, callR, ioIx, argSls, argSl, ioSl, callE, putOuts, outsOf, goodArgs, ioAt, startS, Ob.val, List.set_cons_zero, List.set_cons_succ, List.length_cons, List.length_nil, Nat.reduceAdd, Nat.reduceSub, Nat.reduceLT, Nat.sub_self, List.replicate_zero, List.replicate_succ, List.cons_append, List.nil_append, List.append_nil, reduceIte, Option.map_some, Option.map_none, List.not_mem_nil, List.nodup_nil, if_true, if_false, Bool.false_eq_true, eq_self, or_self, or_false, false_or, Bool.not_true, Bool.not_false, List.map_cons, List.map_nil, decide_true, decide_false, tup_t, et, ty_s, t_l, l5, k_ne, w_lf, w_lc, w_ll, q.1, q.2.1, q.2.2.1, q.2.2.2.1, q.2.2.2.2, len_t, r1, r2, r3, Bool.true_and, Bool.false_and]
          · rw [st_like hl]
            obtain ⟨n1, n2⟩ := len_ne (r := r) (n := 5) (by omega)
            simp (decide := true) only [runFd, f_is_step, EV, q_lcl, asgM, callM, callR, ioIx, argSls, argSl, ioSl, callE, putOuts, outsOf, goodArgs, ioAt, startS, Ob.val, List.set_cons_zero, List.set_cons_succ, List.length_cons, List.length_nil, Nat.reduceAdd, Nat.reduceSub, Nat.reduceLT, Nat.sub_self, List.replicate_zero, List.replicate_succ, List.cons_append, List.nil_append, List.append_nil, reduceIte, Option.map_some, Option.map_none, List.not_mem_nil, List.nodup_nil, if_true, if_false, Bool.false_eq_true, eq_self, or_self, or_false, false_or, Bool.not_true, Bool.not_false, List.map_cons, List.map_nil, decide_true, decide_false, tup_t, et, head0, ty_s, t_l, len_t, n1]
        · by_cases hl : r.length = 5
          · obtain ⟨a, b, c, d, e, rfl⟩ : ∃ a b c d e, r = [a, b, c, d, e] := by
              match r, hl with
              | [a, b, c, d, e], _ => exact ⟨a, b, c, d, e, rfl⟩
            have r1 := r_jts (k := k) (by omega) a b ah.length
            have r2 := r_above_ (k := k) (by omega) c
            have r3 := r_above_ (k := k) (by omega) d
            have r4 := r_whole (k := k) (by omega) e
            rw [pair_as]
            have q := x6 (.str "pair") a b c d e
            cases ha : (jtD ah.length a && (jtD ah.length b && unD a b)) with
            | false =>
              rw [ha] at r1
              simp (decide := true) only [runFd, f_is_step, EV, q_lcl, asgM, callM, callR, ioIx, argSls, argSl, ioSl, callE, putOuts, outsOf, goodArgs, ioAt, startS, Ob.val, List.set_cons_zero, List.set_cons_succ, List.length_cons, List.length_nil, Nat.reduceAdd, Nat.reduceSub, Nat.reduceLT, Nat.sub_self, List.replicate_zero, List.replicate_succ, List.cons_append, List.nil_append, List.append_nil, reduceIte, Option.map_some, Option.map_none, List.not_mem_nil, List.nodup_nil, if_true, if_false, Bool.false_eq_true, eq_self, or_self, or_false, false_or, Bool.not_true, Bool.not_false, List.map_cons, List.map_nil, decide_true, decide_false, tup_t, et, ty_s, t_p, l6, k_ne, w_pf, w_pc, q.1, q.2.1, q.2.2.1, len_t, r1, Bool.false_and]
            | true =>
              rw [ha] at r1
              cases hc : abD c with
              | false =>
                rw [hc] at r2
                simp (decide := true) only [runFd, f_is_step, EV, q_lcl, asgM, callM, callR, ioIx, argSls, argSl, ioSl, callE, putOuts, outsOf, goodArgs, ioAt, startS, Ob.val, List.set_cons_zero, List.set_cons_succ, List.length_cons, List.length_nil, Nat.reduceAdd, Nat.reduceSub, Nat.reduceLT, Nat.sub_self, List.replicate_zero, List.replicate_succ, List.cons_append, List.nil_append, List.append_nil, reduceIte, Option.map_some, Option.map_none, List.not_mem_nil, List.nodup_nil, if_true, if_false, Bool.false_eq_true, eq_self, or_self, or_false, false_or, Bool.not_true, Bool.not_false, List.map_cons, List.map_nil, decide_true, decide_false, tup_t, et, ty_s, t_p, l6, k_ne, w_pf, w_pc, w_pl, q.1, q.2.1, q.2.2.1, q.2.2.2.1, len_t, r1, r2, Bool.true_and, Bool.false_and]
              | true =>
                rw [hc] at r2
                cases hd : abD d with
                | false =>
                  rw [hd] at r3
                  simp (decide := true) only [runFd, f_is_step, EV, q_lcl, asgM, callM, callR, ioIx, argSls, argSl, ioSl, callE, putOuts, outsOf, goodArgs, ioAt, startS, Ob.val, List.set_cons_zero, List.set_cons_succ, List.length_cons, List.length_nil, Nat.reduceAdd, Nat.reduceSub, Nat.reduceLT, Nat.sub_self, List.replicate_zero, List.replicate_succ, List.cons_append, List.nil_append, List.append_nil, reduceIte, Option.map_some, Option.map_none, List.not_mem_nil, List.nodup_nil, if_true, if_false, Bool.false_eq_true, eq_self, or_self, or_false, false_or, Bool.not_true, Bool.not_false, List.map_cons, List.map_nil, decide_true, decide_false, tup_t, et, ty_s, t_p, l6, k_ne, w_pf, w_pc, w_pl, q.1, q.2.1, q.2.2.1, q.2.2.2.1, q.2.2.2.2.1, len_t, r1, r2, r3, Bool.true_and, Bool.false_and]
                | true =>
                  rw [hd] at r3
                  cases hw : whD e with
                  | false =>
                    rw [hw] at r4
                    have hs : sdD e = false := by cases e <;> first | rfl | cases hw
                    rw [hs]
                    simp (decide := true) only [runFd, f_is_step, EV, q_lcl, asgM, callM, callR, ioIx, argSls, argSl, ioSl, callE, putOuts, outsOf, goodArgs, ioAt, startS, Ob.val, List.set_cons_zero, List.set_cons_succ, List.length_cons, List.length_nil, Nat.reduceAdd, Nat.reduceSub, Nat.reduceLT, Nat.sub_self, List.replicate_zero, List.replicate_succ, List.cons_append, List.nil_append, List.append_nil, reduceIte, Option.map_some, Option.map_none, List.not_mem_nil, List.nodup_nil, if_true, if_false, Bool.false_eq_true, eq_self, or_self, or_false, false_or, Bool.not_true, Bool.not_false, List.map_cons, List.map_nil, decide_true, decide_false, tup_t, et, ty_s, t_p, l6, k_ne, w_pf, w_pc, w_pl, q.1, q.2.1, q.2.2.1, q.2.2.2.1, q.2.2.2.2.1, q.2.2.2.2.2, len_t, r1, r2, r3, r4, Bool.true_and, Bool.false_and]
                  | true =>
                    rw [hw] at r4
                    obtain ⟨i, rfl⟩ : ∃ i, e = .int i := by cases e <;> first | exact ⟨_, rfl⟩ | cases hw
                    have hs : sdD (.int i) = (decide (0 ≤ i) && decide (i ≤ 1)) := rfl
                    rw [hs]
                    by_cases c0 : 0 ≤ i
                    · by_cases c1 : i ≤ 1
                      · simp (decide := true) only [runFd, f_is_step, EV, q_lcl, asgM, callM, callR, ioIx, argSls, argSl, ioSl, callE, putOuts, outsOf, goodArgs, ioAt, startS, Ob.val, List.set_cons_zero, List.set_cons_succ, List.length_cons, List.length_nil, Nat.reduceAdd, Nat.reduceSub, Nat.reduceLT, Nat.sub_self, List.replicate_zero, List.replicate_succ, List.cons_append, List.nil_append, List.append_nil, reduceIte, Option.map_some, Option.map_none, List.not_mem_nil, List.nodup_nil, if_true, if_false, Bool.false_eq_true, eq_self, or_self, or_false, false_or, Bool.not_true, Bool.not_false, List.map_cons, List.map_nil, decide_true, decide_false, tup_t, et, ty_s, t_p, l6, k_ne, w_pf, w_pc, w_pl, q.1, q.2.1, q.2.2.1, q.2.2.2.1, q.2.2.2.2.1, q.2.2.2.2.2, len_t, r1, r2, r3, r4, k_le, c0, c1, Bool.true_and, Bool.false_and]
                      · simp (decide := true) only [runFd, f_is_step, EV, q_lcl, asgM, callM, callR, ioIx, argSls, argSl, ioSl, callE, putOuts, outsOf, goodArgs, ioAt, startS, Ob.val, List.set_cons_zero, List.set_cons_succ, List.length_cons, List.length_nil, Nat.reduceAdd, Nat.reduceSub, Nat.reduceLT, Nat.sub_self, List.replicate_zero, List.replicate_succ, List.cons_append, List.nil_append, List.append_nil, reduceIte, Option.map_some, Option.map_none, List.not_mem_nil, List.nodup_nil, if_true, if_false, Bool.false_eq_true, eq_self, or_self, or_false, false_or, Bool.not_true, Bool.not_false, List.map_cons, List.map_nil, decide_true, decide_false, tup_t, et, ty_s, t_p, l6, k_ne, w_pf, w_pc, w_pl, q.1, q.2.1, q.2.2.1, q.2.2.2.1, q.2.2.2.2.1, q.2.2.2.2.2, len_t, r1, r2, r3, r4, k_le, c0, c1, Bool.true_and, Bool.false_and]
                    · simp (decide := true) only [runFd, f_is_step, EV, q_lcl, asgM, callM, callR, ioIx, argSls, argSl, ioSl, callE, putOuts, outsOf, goodArgs, ioAt, startS, Ob.val, List.set_cons_zero, List.set_cons_succ, List.length_cons, List.length_nil, Nat.reduceAdd, Nat.reduceSub, Nat.reduceLT, Nat.sub_self, List.replicate_zero, List.replicate_succ, List.cons_append, List.nil_append, List.append_nil, reduceIte, Option.map_some, Option.map_none, List.not_mem_nil, List.nodup_nil, if_true, if_false, Bool.false_eq_true, eq_self, or_self, or_false, false_or, Bool.not_true, Bool.not_false, List.map_cons, List.map_nil, decide_true, decide_false, tup_t, et, ty_s, t_p, l6, k_ne, w_pf, w_pc, w_pl, q.1, q.2.1, q.2.2.1, q.2.2.2.1, q.2.2.2.2.1, q.2.2.2.2.2, len_t, r1, r2, r3, r4, k_le, c0, Bool.true_and, Bool.false_and]
          · rw [st_pair hl]
            obtain ⟨n1, n2⟩ := len_ne (r := r) (n := 6) (by omega)
            simp (decide := true) only [runFd, f_is_step, EV, q_lcl, asgM, callM, callR, ioIx, argSls, argSl, ioSl, callE, putOuts, outsOf, goodArgs, ioAt, startS, Ob.val, List.set_cons_zero, List.set_cons_succ, List.length_cons, List.length_nil, Nat.reduceAdd, Nat.reduceSub, Nat.reduceLT, Nat.sub_self, List.replicate_zero, List.replicate_succ, List.cons_append, List.nil_append, List.append_nil, reduceIte, Option.map_some, Option.map_none, List.not_mem_nil, List.nodup_nil, if_true, if_false, Bool.false_eq_true, eq_self, or_self, or_false, false_or, Bool.not_true, Bool.not_false, List.map_cons, List.map_nil, decide_true, decide_false, tup_t, et, head0, ty_s, t_p, len_t, n1]
        · rw [st_else hw]
          have t := tab_at s hw.1 hw.2.1 hw.2.2.1 hw.2.2.2
          simp (decide := true) only [runFd, f_is_step, EV, q_lcl, asgM, callM, callR, ioIx, argSls, argSl, ioSl, callE, putOuts, outsOf, goodArgs, ioAt, startS, Ob.val, List.set_cons_zero, List.set_cons_succ, List.length_cons, List.length_nil, Nat.reduceAdd, Nat.reduceSub, Nat.reduceLT, Nat.sub_self, List.replicate_zero, List.replicate_succ, List.cons_append, List.nil_append, List.append_nil, reduceIte, Option.map_some, Option.map_none, List.not_mem_nil, List.nodup_nil, if_true, if_false, Bool.false_eq_true, eq_self, or_self, or_false, false_or, Bool.not_true, Bool.not_false, List.map_cons, List.map_nil, decide_true, decide_false, tup_t, et, head0, ty_s, t, len_t, n_non]
end Lw
set_option Elab.async false
set_option linter.all false
set_option maxRecDepth 100000
set_option maxHeartbeats 400000
/-! Law k41: a step as the law looks at it. -/
namespace Lw
open PySem Hg
theorem str_ne {s : Str} (h : SeqAt.shaped (.str s) = true) (x : Str) (hx : SeqAt.shaped (.str x) = true) : cmpD .NotEq (.str s) (.str x) = some (!decide (s = x)) := by
  have e := str_eq h x hx
  show (cmpD .Eq (.str s) (.str x)).map (!·) = _
  rw [e]
  rfl
theorem lsl12 (a b c : D) : slD (.tuple [a, b, c]) (some 1) (some 2) = some (.sh (.tuple [b])) := rfl
theorem lsl5 (a b c d e : D) : slD (.tuple [a, b, c, d, e]) (some 1) (some 3) = some (.sh (.tuple [b, c])) := rfl
theorem lsl6 (a b c d e f : D) : slD (.tuple [a, b, c, d, e, f]) (some 1) (some 3) = some (.sh (.tuple [b, c])) := rfl
theorem int_t : bfD .int [.bool true] = some (.sh (.int 1)) := rfl
theorem int_f : bfD .int [.bool false] = some (.sh (.int 0)) := rfl
theorem nin01 (i : Int) : cmpD .NotIn (.int i) (.tuple [.int 0, .int 1]) = some (!sdD (.int i)) := by
  have sh : SeqAt.shaped (.tuple [.int 0, .int 1]) = true := by kernel_rfl
  show (if SeqAt.shaped (.int i) && SeqAt.shaped (.tuple [.int 0, .int 1]) then some (!([PyData.int 0, PyData.int 1].any fun z => PyData.eqv z (.int i))) else none) = _
  rw [sh]
  have e : ([PyData.int 0, PyData.int 1].any fun z => PyData.eqv z (.int i)) = sdD (.int i) := by
    show ([PyData.int 0, PyData.int 1].any fun z => PyData.eqv z (.int i)) = (decide (0 ≤ i) && decide (i ≤ 1))
    by_cases c0 : i = 0
    · subst c0; decide +kernel
    · by_cases c1 : i = 1
      · subst c1; decide +kernel
      · have d : (decide (0 ≤ i) && decide (i ≤ 1)) = false := by
          by_cases c : 0 ≤ i
          · rw [decide_eq_false (show ¬ i ≤ 1 by omega), Bool.and_false]
          · rw [decide_eq_false c, Bool.false_and]
        rw [d]
        simp [PyData.eqv]
        omega
  rw [e]
  rfl
theorem ab_of {d : D} (h : frD d = true) : abD d = decide (0 < topD d) := by
  show (frD d && decide (0 < topD d)) = _
  rw [h, Bool.true_and]
theorem ab_no {d : D} (h : frD d = false) : abD d = false := by
  show (frD d && decide (0 < topD d)) = _
  rw [h, Bool.false_and]
theorem r_lstep {k : Nat} (h : 5 ≤ k) {ah : List D} (H : Ah ah) (d : D) (hd : Sp d) : (calAt g.pr k).run i__law_step_due [.sh d, .sh (.tuple ah)] = .ok (.sh (.bool (stD ah d))) [] := by
  obtain ⟨k, rfl⟩ := Nat.exists_eq_add_of_le' (show 1 ≤ k by omega)
  rw [rr k (t := ⟨f__law_step_due, _, _, _⟩) rfl]
  cases ht : [Ty.tuple].any (isTy d) with
  | false =>
    rw [not_tup ht]
    simp (decide := true) only [runFd, f__law_step_due, EV, q_lcl, asgM, callM, callR, ioIx, argSls, argSl, ioSl, callE, putOuts, outsOf, goodArgs, ioAt, startS, Ob.val, List.set_cons_zero, List.set_cons_succ, List.length_cons, List.length_nil, Nat.reduceAdd, Nat.reduceSub, Nat.reduceLT, Nat.sub_self, List.replicate_zero, List.replicate_succ, List.cons_append, List.nil_append, List.append_nil, reduceIte, Option.map_some, Option.map_none, List.not_mem_nil, List.nodup_nil, if_true, if_false, Bool.false_eq_true, eq_self, or_self, or_false, false_or, Bool.not_true, Bool.not_false, List.map_cons, List.map_nil, decide_true, decide_false, ht]
  | true =>
    obtain ⟨xs, rfl⟩ : ∃ xs, d = .tuple xs := by cases d <;> first | exact ⟨_, rfl⟩ | cases ht
    have sh := hd xs rfl
    match xs, sh with
    | [], _ =>
      have e : stD ah (.tuple []) = false := rfl
      rw [e]
      simp (decide := true) only [runFd, f__law_step_due, EV, q_lcl, asgM, callM, callR, ioIx, argSls, argSl, ioSl, callE, putOuts, outsOf, goodArgs, ioAt, startS, Ob.val, List.set_cons_zero, List.set_cons_succ, List.length_cons, List.length_nil, Nat.reduceAdd, Nat.reduceSub, Nat.reduceLT, Nat.sub_self, List.replicate_zero, List.replicate_succ, List.cons_append, List.nil_append, List.append_nil, reduceIte, Option.map_some, Option.map_none, List.not_mem_nil, List.nodup_nil, if_true, if_false, Bool.false_eq_true, eq_self, or_self, or_false, false_or, Bool.not_true, Bool.not_false, List.map_cons, List.map_nil, decide_true, decide_false, tup_t, e_nil]
    | x :: r, sh =>
      have et := e_tup sh
      have sx := sh_head sh
      cases hs : [Ty.str].any (isTy x) with
      | false =>
        rw [not_str hs]
        simp (decide := true) only [runFd, f__law_step_due, EV, q_lcl, asgM, callM, callR, ioIx, argSls, argSl, ioSl, callE, putOuts, outsOf, goodArgs, ioAt, startS, Ob.val, List.set_cons_zero, List.set_cons_succ, List.length_cons, List.length_nil, Nat.reduceAdd, Nat.reduceSub, Nat.reduceLT, Nat.sub_self, List.replicate_zero, List.replicate_succ, List.cons_append, List.nil_append, List.append_nil, reduceIte, Option.map_some, Option.map_none, List.not_mem_nil, List.nodup_nil, if_true, if_false, Bool.false_eq_true, eq_self, or_self, or_false, false_or, Bool.not_true, Bool.not_false, List.map_cons, List.map_nil, decide_true, decide_false, tup_t, et, head0, hs]
      | true =>
        obtain ⟨s, rfl⟩ : ∃ s, x = .str s := by cases x <;> first | exact ⟨_, rfl⟩ | cases hs
        rcases word s with rfl | rfl | rfl | rfl | hw
        · by_cases hl : r.length = 2
          · obtain ⟨a, b, rfl⟩ : ∃ a b, r = [a, b] := by
              match r, hl with
              | [a, b], _ => exact ⟨a, b, rfl⟩
            have r1 := r_lfrac (k := k) (by omega) a
            have r2 := r_lfrac (k := k) (by omega) b
            have e : stD ah (.tuple [.str "fix", a, b]) = (frD a && frD b) := rfl
            rw [e]
            have q := x3 (.str "fix") a b
            cases ha : frD a <;> cases hb : frD b <;> rw [ha] at r1 <;> rw [hb] at r2 <;> simp (decide := true) only [runFd, f__law_step_due, EV, q_lcl, asgM, callM, callR, ioIx, argSls, argSl, ioSl, callE, putOuts, outsOf, goodArgs, ioAt, startS, Ob.val, List.set_cons_zero, List.set_cons_succ, List.length_cons, List.length_nil, Nat.reduceAdd, Nat.reduceSub, Nat.reduceLT, Nat.sub_self, List.replicate_zero, List.replicate_succ, List.cons_append, List.nil_append, List.append_nil, reduceIte, Option.map_some, Option.map_none, List.not_mem_nil, List.nodup_nil, if_true, if_false, Bool.false_eq_true, eq_self, or_self, or_false, false_or, Bool.not_true, Bool.not_false, List.map_cons, List.map_nil, decide_true, decide_false, tup_t, et, ty_s, l3, k_eq, w_ff, q.1, q.2.1, q.2.2, r1, r2] <;> rfl
          · rw [st_fix hl]
            obtain ⟨n1, n2⟩ := len_ne (r := r) (n := 3) (by omega)
            simp (decide := true) only [runFd, f__law_step_due, EV, q_lcl, asgM, callM, callR, ioIx, argSls, argSl, ioSl, callE, putOuts, outsOf, goodArgs, ioAt, startS, Ob.val, List.set_cons_zero, List.set_cons_succ, List.length_cons, List.length_nil, Nat.reduceAdd, Nat.reduceSub, Nat.reduceLT, Nat.sub_self, List.replicate_zero, List.replicate_succ, List.cons_append, List.nil_append, List.append_nil, reduceIte, Option.map_some, Option.map_none, List.not_mem_nil, List.nodup_nil, if_true, if_false, Bool.false_eq_true, eq_self, or_self, or_false, false_or, Bool.not_true, Bool.not_false, List.map_cons, List.map_nil, decide_true, decide_false, tup_t, et, head0, ty_s, w_ff, len_t, n2]
        · by_cases hl : r.length = 2
          · obtain ⟨a, b, rfl⟩ : ∃ a b, r = [a, b] := by
              match r, hl with
              | [a, b], _ => exact ⟨a, b, rfl⟩
            have r1 := r_lj1 (k := k) (by omega) a ah.length
            have r2 := r_lfrac (k := k) (by omega) b
            rw [crank_is]
            have q := x3 (.str "crank") a b
            cases ha : jtD ah.length a with
            | false =>
              rw [ha] at r1
              simp (decide := true) only [runFd, f__law_step_due, EV, q_lcl, asgM, callM, callR, ioIx, argSls, argSl, ioSl, callE, putOuts, outsOf, goodArgs, ioAt, startS, Ob.val, List.set_cons_zero, List.set_cons_succ, List.length_cons, List.length_nil, Nat.reduceAdd, Nat.reduceSub, Nat.reduceLT, Nat.sub_self, List.replicate_zero, List.replicate_succ, List.cons_append, List.nil_append, List.append_nil, reduceIte, Option.map_some, Option.map_none, List.not_mem_nil, List.nodup_nil, if_true, if_false, Bool.false_eq_true, eq_self, or_self, or_false, false_or, Bool.not_true, Bool.not_false, List.map_cons, List.map_nil, decide_true, decide_false, tup_t, et, ty_s, l3, k_ne, w_cf, w_cc, q.1, q.2.1, q.2.2, lsl12, p_int, len_t, r1, Bool.false_and]
            | true =>
              rw [ha] at r1
              obtain ⟨i, rfl, i0, i1⟩ := jt_int ha
              obtain ⟨s, r, e1, s1, e2⟩ := ah_at H i0 i1
              have e3 := str_ne s1 "fix" sh_fix
              cases hf : fixAt ah (.int i) with
              | false =>
                rw [hf] at e2
                rw [← e2] at e3
                simp (decide := true) only [runFd, f__law_step_due, EV, q_lcl, asgM, callM, callR, ioIx, argSls, argSl, ioSl, callE, putOuts, outsOf, goodArgs, ioAt, startS, Ob.val, List.set_cons_zero, List.set_cons_succ, List.length_cons, List.length_nil, Nat.reduceAdd, Nat.reduceSub, Nat.reduceLT, Nat.sub_self, List.replicate_zero, List.replicate_succ, List.cons_append, List.nil_append, List.append_nil, reduceIte, Option.map_some, Option.map_none, List.not_mem_nil, List.nodup_nil, if_true, if_false, Bool.false_eq_true, eq_self, or_self, or_false, false_or, Bool.not_true, Bool.not_false, List.map_cons, List.map_nil, decide_true, decide_false, tup_t, et, ty_s, l3, k_ne, w_cf, w_cc, q.1, q.2.1, q.2.2, lsl12, p_int, len_t, r1, e1, head0, e3, Bool.false_and, Bool.true_and]
              | true =>
                rw [hf] at e2
                rw [← e2] at e3
                cases hb : frD b with
                | false =>
                  rw [hb] at r2
                  rw [ab_no hb]
                  simp (decide := true) only [runFd, f__law_step_due, EV, q_lcl, asgM, callM, callR, ioIx, argSls, argSl, ioSl, callE, putOuts, outsOf, goodArgs, ioAt, startS, Ob.val, List.set_cons_zero, List.set_cons_succ, List.length_cons, List.length_nil, Nat.reduceAdd, Nat.reduceSub, Nat.reduceLT, Nat.sub_self, List.replicate_zero, List.replicate_succ, List.cons_append, List.nil_append, List.append_nil, reduceIte, Option.map_some, Option.map_none, List.not_mem_nil, List.nodup_nil, if_true, if_false, Bool.false_eq_true, eq_self, or_self, or_false, false_or, Bool.not_true, Bool.not_false, List.map_cons, List.map_nil, decide_true, decide_false, tup_t, et, ty_s, l3, k_ne, w_cf, w_cc, q.1, q.2.1, q.2.2, lsl12, p_int, len_t, r1, e1, head0, e3, r2, Bool.true_and]
                | true =>
                  rw [hb] at r2
                  have t := fr_top hb
                  rw [ab_of hb]
                  by_cases p1 : 0 < topD b <;> simp (decide := true) only [runFd, f__law_step_due, EV, q_lcl, asgM, callM, callR, ioIx, argSls, argSl, ioSl, callE, putOuts, outsOf, goodArgs, ioAt, startS, Ob.val, List.set_cons_zero, List.set_cons_succ, List.length_cons, List.length_nil, Nat.reduceAdd, Nat.reduceSub, Nat.reduceLT, Nat.sub_self, List.replicate_zero, List.replicate_succ, List.cons_append, List.nil_append, List.append_nil, reduceIte, Option.map_some, Option.map_none, List.not_mem_nil, List.nodup_nil, if_true, if_false, Bool.false_eq_true, eq_self, or_self, or_false, false_or, Bool.not_true, Bool.not_false, List.map_cons, List.map_nil, decide_true, decide_false, tup_t, et, ty_s, l3, k_ne, w_cf, w_cc, q.1, q.2.1, q.2.2, lsl12, p_int, len_t, r1, e1, head0, e3, r2, t, k_gt, p1, Bool.true_and]
          · rw [st_crank hl]
            obtain ⟨n1, n2⟩ := len_ne (r := r) (n := 3) (by omega)
            simp (decide := true) only [runFd, f__law_step_due, EV, q_lcl, asgM, callM, callR, ioIx, argSls, argSl, ioSl, callE, putOuts, outsOf, goodArgs, ioAt, startS, Ob.val, List.set_cons_zero, List.set_cons_succ, List.length_cons, List.length_nil, Nat.reduceAdd, Nat.reduceSub, Nat.reduceLT, Nat.sub_self, List.replicate_zero, List.replicate_succ, List.cons_append, List.nil_append, List.append_nil, reduceIte, Option.map_some, Option.map_none, List.not_mem_nil, List.nodup_nil, if_true, if_false, Bool.false_eq_true, eq_self, or_self, or_false, false_or, Bool.not_true, Bool.not_false, List.map_cons, List.map_nil, decide_true, decide_false, tup_t, et, head0, ty_s, w_cf, w_cc, len_t, n1, n2]
        · by_cases hl : r.length = 4
          · obtain ⟨a, b, c, d, rfl⟩ : ∃ a b c d, r = [a, b, c, d] := by
              match r, hl with
              | [a, b, c, d], _ => exact ⟨a, b, c, d, rfl⟩
            have r1 := r_lj2 (k := k) (by omega) a b ah.length
            have r2 := r_lfrac (k := k) (by omega) c
            have r3 := r_lfrac (k := k) (by omega) d
            rw [like_as]
            have q := x5 (.str "like") a b c d
            cases ha : (jtD ah.length a && (jtD ah.length b && unD a b)) with
            | false =>
              rw [ha] at r1
              simp (decide := true) only [runFd, f__law_step_due, EV, q_lcl, asgM, callM, callR, ioIx, argSls, argSl, ioSl, callE, putOuts, outsOf, goodArgs, ioAt, startS, Ob.val, List.set_cons_zero, List.set_cons_succ, List.length_cons, List.length_nil, Nat.reduceAdd, Nat.reduceSub, Nat.reduceLT, Nat.sub_self, List.replicate_zero, List.replicate_succ, List.cons_append, List.nil_append, List.append_nil, reduceIte, Option.map_some, Option.map_none, List.not_mem_nil, List.nodup_nil, if_true, if_false, Bool.false_eq_true, eq_self, or_self, or_false, false_or, Bool.not_true, Bool.not_false, List.map_cons, List.map_nil, decide_true, decide_false, tup_t, et, ty_s, i_like, int_f, w_lp, l5, k_ne, w_lf, w_lc, lsl5, p_int, q.1, q.2.1, q.2.2.1, len_t, r1, Bool.false_and]
            | true =>
              rw [ha] at r1
              cases hc : frD c <;> cases hd : frD d <;> rw [hc] at r2 <;> rw [hd] at r3 <;> simp (decide := true) only [runFd, f__law_step_due, EV, q_lcl, asgM, callM, callR, ioIx, argSls, argSl, ioSl, callE, putOuts, outsOf, goodArgs, ioAt, startS, Ob.val, List.set_cons_zero, List.set_cons_succ, List.length_cons, List.length_nil, Nat.reduceAdd, Nat.reduceSub, Nat.reduceLT, Nat.sub_self, List.replicate_zero, List.replicate_succ, List.cons_append, List.nil_append, List.append_nil, reduceIte, Option.map_some, Option.map_none, List.not_mem_nil, List.nodup_nil, if_true, if_false, Bool.false_eq_true, eq_self, or_self, or_false, false_or, Bool.not_true, Bool.not_false, List.map_cons, List.map_nil, decide_true, decide_false, tup_t, et, ty_s, i_like, int_f, w_lp, l5, k_ne, w_lf, w_lc, w_ll, lsl5, p_int, q.1, q.2.1, q.2.2.1, q.2.2.2.1, q.2.2.2.2, len_t, r1, r2, r3, Bool.true_and, Bool.false_and]
          · rw [st_like hl]
            obtain ⟨n1, n2⟩ := len_ne (r := r) (n := 5 + 0) (by omega)
            simp (decide := true) only [runFd, f__law_step_due, EV, q_lcl, asgM, callM, callR, ioIx, argSls, argSl, ioSl, callE, putOuts, outsOf, goodArgs, ioAt, startS, Ob.val, List.set_cons_zero, List.set_cons_succ, List.length_cons, List.length_nil, Nat.reduceAdd, Nat.reduceSub, Nat.reduceLT, Nat.sub_self, List.replicate_zero, List.replicate_succ, List.cons_append, List.nil_append, List.append_nil, reduceIte, Option.map_some, Option.map_none, List.not_mem_nil, List.nodup_nil, if_true, if_false, Bool.false_eq_true, eq_self, or_self, or_false, false_or, Bool.not_true, Bool.not_false, List.map_cons, List.map_nil, decide_true, decide_false, tup_t, et, head0, ty_s, i_like, int_f, w_lp, w_lf, w_lc, len_t, n1, n2]
        · by_cases hl : r.length = 5
          · obtain ⟨a, b, c, d, e, rfl⟩ : ∃ a b c d e, r = [a, b, c, d, e] := by
              match r, hl with
              | [a, b, c, d, e], _ => exact ⟨a, b, c, d, e, rfl⟩
            have r1 := r_lj2 (k := k) (by omega) a b ah.length
            have r2 := r_lfrac (k := k) (by omega) c
            have r3 := r_lfrac (k := k) (by omega) d
            rw [pair_as]
            have q := x6 (.str "pair") a b c d e
            cases ha : (jtD ah.length a && (jtD ah.length b && unD a b)) with
            | false =>
              rw [ha] at r1
              simp (decide := true) only [runFd, f__law_step_due, EV, q_lcl, asgM, callM, callR, ioIx, argSls, argSl, ioSl, callE, putOuts, outsOf, goodArgs, ioAt, startS, Ob.val, List.set_cons_zero, List.set_cons_succ, List.length_cons, List.length_nil, Nat.reduceAdd, Nat.reduceSub, Nat.reduceLT, Nat.sub_self, List.replicate_zero, List.replicate_succ, List.cons_append, List.nil_append, List.append_nil, reduceIte, Option.map_some, Option.map_none, List.not_mem_nil, List.nodup_nil, if_true, if_false, Bool.false_eq_true, eq_self, or_self, or_false, false_or, Bool.not_true, Bool.not_false, List.map_cons, List.map_nil, decide_true, decide_false, tup_t, et, ty_s, i_pair, int_t, w_pp, l6, k_ne, w_pf, w_pc, lsl6, p_int, q.1, q.2.1, q.2.2.1, len_t, r1, Bool.false_and]
            | true =>
              rw [ha] at r1
              cases hc : frD c with
              | false =>
                rw [hc] at r2
                rw [ab_no hc]
                simp (decide := true) only [runFd, f__law_step_due, EV, q_lcl, asgM, callM, callR, ioIx, argSls, argSl, ioSl, callE, putOuts, outsOf, goodArgs, ioAt, startS, Ob.val, List.set_cons_zero, List.set_cons_succ, List.length_cons, List.length_nil, Nat.reduceAdd, Nat.reduceSub, Nat.reduceLT, Nat.sub_self, List.replicate_zero, List.replicate_succ, List.cons_append, List.nil_append, List.append_nil, reduceIte, Option.map_some, Option.map_none, List.not_mem_nil, List.nodup_nil, if_true, if_false, Bool.false_eq_true, eq_self, or_self, or_false, false_or, Bool.not_true, Bool.not_false, List.map_cons, List.map_nil, decide_true, decide_false, tup_t, et, ty_s, i_pair, int_t, w_pp, l6, k_ne, w_pf, w_pc, w_pl, lsl6, p_int, q.1, q.2.1, q.2.2.1, q.2.2.2.1, len_t, r1, r2, Bool.true_and, Bool.false_and]
              | true =>
                rw [hc] at r2
                cases hdd : frD d with
                | false =>
                  rw [hdd] at r3
                  rw [ab_no hdd]
                  simp (decide := true) only [runFd, f__law_step_due, EV, q_lcl, asgM, callM, callR, ioIx, argSls, argSl, ioSl, callE, putOuts, outsOf, goodArgs, ioAt, startS, Ob.val, List.set_cons_zero, List.set_cons_succ, List.length_cons, List.length_nil, Nat.reduceAdd, Nat.reduceSub, Nat.reduceLT, Nat.sub_self, List.replicate_zero, List.replicate_succ, List.cons_append, List.nil_append, List.append_nil, reduceIte, Option.map_some, Option.map_none, List.not_mem_nil, List.nodup_nil, if_true, if_false, Bool.false_eq_true, eq_self, or_self, or_false, false_or, Bool.not_true, Bool.not_false, List.map_cons, List.map_nil, decide_true, decide_false, tup_t, et, ty_s, i_pair, int_t, w_pp, l6, k_ne, w_pf, w_pc, w_pl, lsl6, p_int, q.1, q.2.1, q.2.2.1, q.2.2.2.1, q.2.2.2.2.1, len_t, r1, r2, r3, Bool.true_and, Bool.false_and, Bool.and_false]
                | true =>
                  rw [hdd] at r3
                  have t1 := fr_top hc
                  have t2 := fr_top hdd
                  have q5 := q.2.2.2.2.2
                  have a1 := ty_i e
                  have a2 := ty_b e
                  cases hbb : isTy e .bool with
                  | true =>
                    have hw := wh_nb hbb
                    have hs : sdD e = false := by cases e <;> first | rfl | cases hbb
                    rw [hw, hbb] at a1
                    rw [hbb] at a2
                    rw [hs]
                    simp (decide := true) only [runFd, f__law_step_due, EV, q_lcl, asgM, callM, callR, ioIx, argSls, argSl, ioSl, callE, putOuts, outsOf, goodArgs, ioAt, startS, Ob.val, List.set_cons_zero, List.set_cons_succ, List.length_cons, List.length_nil, Nat.reduceAdd, Nat.reduceSub, Nat.reduceLT, Nat.sub_self, List.replicate_zero, List.replicate_succ, List.cons_append, List.nil_append, List.append_nil, reduceIte, Option.map_some, Option.map_none, List.not_mem_nil, List.nodup_nil, if_true, if_false, Bool.false_eq_true, eq_self, or_self, or_false, false_or, Bool.not_true, Bool.not_false, List.map_cons, List.map_nil, decide_true, decide_false, tup_t, et, ty_s, i_pair, int_t, w_pp, l6, k_ne, w_pf, w_pc, w_pl, lsl6, p_int, q.1, q.2.1, q.2.2.1, q.2.2.2.1, q.2.2.2.2.1, q5, len_t, r1, r2, r3, a1, a2, Bool.true_and, Bool.false_and, Bool.and_false, Bool.or_true, Bool.false_or]
                  | false =>
                    rw [hbb] at a1 a2
                    cases hw : whD e with
                    | false =>
                      rw [hw] at a1
                      have hs : sdD e = false := by cases e <;> first | rfl | cases hw
                      rw [hs]
                      simp (decide := true) only [runFd, f__law_step_due, EV, q_lcl, asgM, callM, callR, ioIx, argSls, argSl, ioSl, callE, putOuts, outsOf, goodArgs, ioAt, startS, Ob.val, List.set_cons_zero, List.set_cons_succ, List.length_cons, List.length_nil, Nat.reduceAdd, Nat.reduceSub, Nat.reduceLT, Nat.sub_self, List.replicate_zero, List.replicate_succ, List.cons_append, List.nil_append, List.append_nil, reduceIte, Option.map_some, Option.map_none, List.not_mem_nil, List.nodup_nil, if_true, if_false, Bool.false_eq_true, eq_self, or_self, or_false, false_or, Bool.not_true, Bool.not_false, List.map_cons, List.map_nil, decide_true, decide_false, tup_t, et, ty_s, i_pair, int_t, w_pp, l6, k_ne, w_pf, w_pc, w_pl, lsl6, p_int, q.1, q.2.1, q.2.2.1, q.2.2.2.1, q.2.2.2.2.1, q5, len_t, r1, r2, r3, a1, a2, Bool.true_and, Bool.false_and, Bool.and_false, Bool.or_true, Bool.false_or, Bool.or_false]
                    | true =>
                      rw [hw] at a1
                      obtain ⟨i, rfl⟩ : ∃ i, e = .int i := by cases e <;> first | exact ⟨_, rfl⟩ | cases hw
                      have ni := nin01 i
                      cases hs : sdD (.int i) with
                      | false =>
                        rw [hs] at ni
                        simp (decide := true) only [runFd, f__law_step_due, EV, q_lcl, asgM, callM, callR, ioIx, argSls, argSl, ioSl, callE, putOuts, outsOf, goodArgs, ioAt, startS, Ob.val, List.set_cons_zero, List.set_cons_succ, List.length_cons, List.length_nil, Nat.reduceAdd, Nat.reduceSub, Nat.reduceLT, Nat.sub_self, List.replicate_zero, List.replicate_succ, List.cons_append, List.nil_append, List.append_nil, reduceIte, Option.map_some, Option.map_none, List.not_mem_nil, List.nodup_nil, if_true, if_false, Bool.false_eq_true, eq_self, or_self, or_false, false_or, Bool.not_true, Bool.not_false, List.map_cons, List.map_nil, decide_true, decide_false, tup_t, et, ty_s, i_pair, int_t, w_pp, l6, k_ne, w_pf, w_pc, w_pl, lsl6, p_int, q.1, q.2.1, q.2.2.1, q.2.2.2.1, q.2.2.2.2.1, q5, len_t, r1, r2, r3, a1, a2, ni, Bool.true_and, Bool.false_and, Bool.and_false, Bool.or_true, Bool.false_or, Bool.or_false]
                      | true =>
                        rw [hs] at ni
                        rw [ab_of hc, ab_of hdd]
                        by_cases p1 : 0 < topD c
                        · by_cases p2 : 0 < topD d <;> simp (decide := true) only [runFd, f__law_step_due, EV, q_lcl, asgM, callM, callR, ioIx, argSls, argSl, ioSl, callE, putOuts, outsOf, goodArgs, ioAt, startS, Ob.val, List.set_cons_zero, List.set_cons_succ, List.length_cons, List.length_nil, Nat.reduceAdd, Nat.reduceSub, Nat.reduceLT, Nat.sub_self, List.replicate_zero, List.replicate_succ, List.cons_append, List.nil_append, List.append_nil, reduceIte, Option.map_some, Option.map_none, List.not_mem_nil, List.nodup_nil, if_true, if_false, Bool.false_eq_true, eq_self, or_self, or_false, false_or, Bool.not_true, Bool.not_false, List.map_cons, List.map_nil, decide_true, decide_false, tup_t, et, ty_s, i_pair, int_t, w_pp, l6, k_ne, w_pf, w_pc, w_pl, lsl6, p_int, q.1, q.2.1, q.2.2.1, q.2.2.2.1, q.2.2.2.2.1, q5, len_t, r1, r2, r3, a1, a2, ni, t1, t2, k_gt, p1, p2, Bool.true_and, Bool.false_and, Bool.and_true, Bool.and_false, Bool.or_true, Bool.false_or, Bool.or_false]
                        · simp (decide := true) only [runFd, f__law_step_due, EV, q_lcl, asgM, callM, callR, ioIx, argSls, argSl, ioSl, callE, putOuts, outsOf, goodArgs, ioAt, startS, Ob.val, List.set_cons_zero, List.set_cons_succ, List.length_cons, List.length_nil, Nat.reduceAdd, Nat.reduceSub, Nat.reduceLT, Nat.sub_self, List.replicate_zero, List.replicate_succ, List.cons_append, List.nil_append, List.append_nil, reduceIte, Option.map_some, Option.map_none, List.not_mem_nil, List.nodup_nil, if_true, if_false, Bool.false_eq_true, eq_self, or_self, or_false, false_or, Bool.not_true, Bool.not_false, List.map_cons, List.map_nil, decide_true, decide_false, tup_t, et, ty_s, i_pair, int_t, w_pp, l6, k_ne, w_pf, w_pc, w_pl, lsl6, p_int, q.1, q.2.1, q.2.2.1, q.2.2.2.1, q.2.2.2.2.1, q5, len_t, r1, r2, r3, a1, a2, ni, t1, t2, k_gt, p1, Bool.true_and, Bool.false_and, Bool.and_true, Bool.and_false, Bool.or_true, Bool.false_or, Bool.or_false]
          · rw [st_pair hl]
            obtain ⟨n1, n2⟩ := len_ne (r := r) (n := 5 + 1) (by omega)
            simp (decide := true) only [runFd, f__law_step_due, EV, q_lcl, asgM, callM, callR, ioIx, argSls, argSl, ioSl, callE, putOuts, outsOf, goodArgs, ioAt, startS, Ob.val, List.set_cons_zero, List.set_cons_succ, List.length_cons, List.length_nil, Nat.reduceAdd, Nat.reduceSub, Nat.reduceLT, Nat.sub_self, List.replicate_zero, List.replicate_succ, List.cons_append, List.nil_append, List.append_nil, reduceIte, Option.map_some, Option.map_none, List.not_mem_nil, List.nodup_nil, if_true, if_false, Bool.false_eq_true, eq_self, or_self, or_false, false_or, Bool.not_true, Bool.not_false, List.map_cons, List.map_nil, decide_true, decide_false, tup_t, et, head0, ty_s, i_pair, int_t, w_pp, w_pf, w_pc, len_t, n1, n2]
        · rw [st_else hw]
          have ie := i_else sx hw.2.2.1 hw.2.2.2
          have n1 := str_eq sx "fix" sh_fix
          have n2 := str_eq sx "crank" sh_crank
          rw [decide_eq_false hw.1] at n1
          rw [decide_eq_false hw.2.1] at n2
          simp (decide := true) only [runFd, f__law_step_due, EV, q_lcl, asgM, callM, callR, ioIx, argSls, argSl, ioSl, callE, putOuts, outsOf, goodArgs, ioAt, startS, Ob.val, List.set_cons_zero, List.set_cons_succ, List.length_cons, List.length_nil, Nat.reduceAdd, Nat.reduceSub, Nat.reduceLT, Nat.sub_self, List.replicate_zero, List.replicate_succ, List.cons_append, List.nil_append, List.append_nil, reduceIte, Option.map_some, Option.map_none, List.not_mem_nil, List.nodup_nil, if_true, if_false, Bool.false_eq_true, eq_self, or_self, or_false, false_or, Bool.not_true, Bool.not_false, List.map_cons, List.map_nil, decide_true, decide_false, tup_t, et, head0, ty_s, n1, n2, ie]
end Lw
set_option Elab.async false
set_option linter.all false
set_option maxRecDepth 100000
set_option maxHeartbeats 400000
/-! Law k41: machines looked at. -/
namespace Lw
open PySem Hg
/-! ### shapes -/
def Shp (n : Nat) (d : D) : Prop := d.canLay0 = true ∧ d.depth ≤ n
theorem Shp.mono {n m : Nat} {d : D} (h : Shp n d) (l : n ≤ m) : Shp m d := ⟨h.1, Nat.le_trans h.2 l⟩
theorem shp_int (i : Int) : Shp 1 (.int i) := ⟨rfl, Nat.le_of_ble_eq_true rfl⟩
theorem shp_bool (b : Bool) : Shp 1 (.bool b) := ⟨rfl, Nat.le_of_ble_eq_true rfl⟩
theorem shp_non : Shp 1 .none := ⟨rfl, Nat.le_of_ble_eq_true rfl⟩
theorem shp_str {x : Str} (h : SeqAt.shaped (.str x) = true) : Shp 1 (.str x) := ⟨SeqAt.canLay_of_shaped h, Nat.le_of_ble_eq_true rfl⟩
theorem shp_all {n : Nat} : ∀ {xs : List D}, (∀ x ∈ xs, Shp n x) → PyData.canLayAll0 xs = true ∧ PyData.depthAll xs ≤ n
  | [], _ => ⟨rfl, Nat.zero_le _⟩
  | x :: xs, h => by
    obtain ⟨a, b⟩ := shp_all (xs := xs) fun y hy => h y (List.mem_cons_of_mem _ hy)
    obtain ⟨c, d⟩ := h x List.mem_cons_self
    constructor
    · show (x.canLay0 && PyData.canLayAll0 xs) = true
      rw [c, a] <;> rfl
    · show max x.depth (PyData.depthAll xs) ≤ n
      exact Nat.max_le.mpr ⟨d, b⟩
theorem shp_tup {n : Nat} {xs : List D} (h : ∀ x ∈ xs, Shp n x) : Shp (n + 1) (.tuple xs) := ⟨(shp_all h).1, Nat.succ_le_succ (shp_all h).2⟩
theorem shp_list {n : Nat} {xs : List D} (h : ∀ x ∈ xs, Shp n x) : Shp (n + 1) (.list xs) := ⟨(shp_all h).1, Nat.succ_le_succ (shp_all h).2⟩
theorem shp_parts {n : Nat} : ∀ {xs : List D}, PyData.canLayAll0 xs = true → PyData.depthAll xs ≤ n → ∀ x ∈ xs, Shp n x
  | [], _, _, x, hx => nomatch hx
  | y :: xs, h1, h2, x, hx => by
    have e : (y.canLay0 && PyData.canLayAll0 xs) = true := h1
    have d : max y.depth (PyData.depthAll xs) ≤ n := h2
    rw [Bool.and_eq_true] at e
    rcases List.mem_cons.mp hx with rfl | hx
    · exact ⟨e.1, Nat.le_trans (Nat.le_max_left _ _) d⟩
    · exact shp_parts e.2 (Nat.le_trans (Nat.le_max_right _ _) d) x hx
theorem shp_in {n : Nat} {xs : List D} (h : Shp n (.tuple xs)) : ∀ x ∈ xs, Shp n x := by
  refine shp_parts h.1 ?_
  have d : PyData.depthAll xs + 1 ≤ n := h.2
  omega
theorem shp_sh {n : Nat} {d : D} (h : Shp n d) (l : n ≤ 64) : SeqAt.shaped d = true := by
  show (d.canLay0 && decide (d.depth ≤ 64)) = true
  rw [h.1, decide_eq_true (Nat.le_trans h.2 l)] <;> rfl
theorem sh_shp {d : D} (h : SeqAt.shaped d = true) : Shp 64 d := ⟨SeqAt.canLay_of_shaped h, SeqAt.depth_of_shaped h⟩
theorem sp_of {n : Nat} {d : D} (h : Shp n d) (l : n ≤ 64) : Sp d := fun _ _ => shp_sh h l
/-- a thing whose parts may be looked at -/
def TG (d : D) : Prop := ∀ xs, d = .tuple xs → ∀ x ∈ xs, Sp x
theorem tg_of {n : Nat} {d : D} (h : Shp n d) (l : n ≤ 64) : TG d := fun xs e x hx => sp_of (shp_in (e ▸ h) x hx) l
/-! ### machines -/
def goD : List D → List D → Bool
  | _, [] => true
  | ah, d :: r => stD ah d && goD (ah ++ [d]) r
def maD : D → Bool
  | .tuple xs => decide (1 ≤ (xs.length : Int)) && (decide ((xs.length : Int) ≤ 7) && goD [] xs)
  | _ => false
theorem cut_ah (ah r : List D) : slD (.tuple (ah ++ r)) none (some (ah.length : Int)) = some (.sh (.tuple ah)) := by
  show some (Sl.sh (.tuple (cutD (ah ++ r) none (some (ah.length : Int))))) = _
  have e : cutD (ah ++ r) none (some (ah.length : Int)) = ah := by
    unfold cutD
    rw [HT.sIx_none, HT.sIx_nat, List.drop_zero, Nat.min_eq_left (by rw [List.length_append]; omega), Nat.sub_zero, List.take_left]
  rw [e]
theorem st_head {ah : List D} {d : D} (h : stD ah d = true) : ∃ s r, d = .tuple (.str s :: r) := by
  cases d with
  | tuple xs =>
    cases xs with
    | nil => cases h
    | cons x r => cases x <;> first | exact ⟨_, _, rfl⟩ | cases h
  | _ => cases h
theorem ah_snoc {ah : List D} {d : D} (H : Ah ah) (h : stD ah d = true) (hd : Sp d) : Ah (ah ++ [d]) := fun x hx => by
  rcases List.mem_append.mp hx with hx | hx
  · exact H x hx
  · rw [List.mem_singleton] at hx
    subst hx
    obtain ⟨s, r, e⟩ := st_head h
    have z := hd _ e
    rw [e] at z
    exact ⟨s, r, e, sh_head z⟩
theorem p_varM' {i : Nat} {m : M Sl} {s : S} : partM (.var i) m s = (frz m s).bind fun d s1 => (match d with
  | .int i => R.ok (some i) s1
  | _ => .bad) := by
  show ((frz m).bind _) s = _
  unfold M.bind
  congr 1
  funext d s1
  cases d <;> rfl
theorem mac_turn {k : Nat} (h : 5 ≤ k) {ah r : List D} {d : D} (H : Ah ah) (hd : Sp d) (y1 y2 : Sl) :
    ((putT (.tup (.cons (.name 2) (.cons (.name 1) .nil))) (.tuple [.int (ah.length : Int), d])).bind fun _ => evSs (calAt g.pr k) [] b1_is_machine) [.sh (.tuple (ah ++ d :: r)), y1, y2] = .ok (if stD ah d then .nx else .rt (.sh (.bool false))) [.sh (.tuple (ah ++ d :: r)), .sh d, .sh (.int (ah.length : Int))] := by
  have rs := r_step (k := k) h H d hd
  have cu := cut_ah ah (d :: r)
  generalize ah ++ d :: r = m at *
  cases hb : stD ah d <;> rw [hb] at rs <;> simp (decide := true) only [b1_is_machine, EV, q_lcl, asgM, callM, callR, ioIx, argSls, argSl, ioSl, callE, putOuts, outsOf, goodArgs, ioAt, startS, Ob.val, List.set_cons_zero, List.set_cons_succ, List.length_cons, List.length_nil, Nat.reduceAdd, Nat.reduceSub, Nat.reduceLT, Nat.sub_self, List.replicate_zero, List.replicate_succ, List.cons_append, List.nil_append, List.append_nil, reduceIte, Option.map_some, Option.map_none, List.not_mem_nil, List.nodup_nil, if_true, if_false, Bool.false_eq_true, eq_self, or_self, or_false, false_or, Bool.not_true, Bool.not_false, List.map_cons, List.map_nil, decide_true, decide_false, q_pt, q_pt2, p_non, p_varM', cu, rs] <;> rfl
theorem mac_go {k : Nat} (h : 5 ≤ k) : ∀ (r ah : List D) (y1 y2 : Sl), Ah ah → (∀ d ∈ r, Sp d) → ∃ z1 z2,
    foGo (fun d => (putT (.tup (.cons (.name 2) (.cons (.name 1) .nil))) d).bind fun _ => evSs (calAt g.pr k) [] b1_is_machine) ((r.zipIdx ah.length).map fun p => .tuple [.int (p.2 : Int), p.1]) [.sh (.tuple (ah ++ r)), y1, y2] = .ok (if goD ah r then .nx else .rt (.sh (.bool false))) [.sh (.tuple (ah ++ r)), z1, z2]
  | [], ah, y1, y2, _, _ => ⟨y1, y2, rfl⟩
  | d :: r, ah, y1, y2, H, hs => by
    have t := mac_turn (k := k) h (r := r) H (hs d List.mem_cons_self) y1 y2
    cases hb : stD ah d with
    | false =>
      rw [hb] at t
      refine ⟨.sh d, .sh (.int (ah.length : Int)), ?_⟩
      have e : goD ah (d :: r) = false := by
        show (stD ah d && goD (ah ++ [d]) r) = false
        rw [hb, Bool.false_and]
      rw [e]
      exact foGo_r t
    | true =>
      rw [hb] at t
      have e : goD ah (d :: r) = goD (ah ++ [d]) r := by
        show (stD ah d && goD (ah ++ [d]) r) = _
        rw [hb, Bool.true_and]
      rw [e]
      obtain ⟨z1, z2, ih⟩ := mac_go h r (ah ++ [d]) (.sh d) (.sh (.int (ah.length : Int))) (ah_snoc H hb (hs d List.mem_cons_self)) fun x hx => hs x (List.mem_cons_of_mem _ hx)
      have a : ah ++ [d] ++ r = ah ++ d :: r := by rw [List.append_assoc]; rfl
      have l : (ah ++ [d]).length = ah.length + 1 := by rw [List.length_append]; rfl
      rw [a, l] at ih
      refine ⟨z1, z2, ?_⟩
      show foGo _ (PyData.tuple [.int (ah.length : Int), d] :: (r.zipIdx (ah.length + 1)).map fun p => .tuple [.int (p.2 : Int), p.1]) _ = _
      rw [foGo_t t]
      exact ih
theorem r_machine {k : Nat} (h : 6 ≤ k) (d : D) (hd : TG d) : (calAt g.pr k).run i_is_machine [.sh d] = .ok (.sh (.bool (maD d))) [] := by
  obtain ⟨k, rfl⟩ := Nat.exists_eq_add_of_le' (show 1 ≤ k by omega)
  rw [rr k (t := ⟨f_is_machine, _, _, _⟩) rfl]
  cases ht : [Ty.tuple].any (isTy d) with
  | false =>
    have e : maD d = false := by cases d <;> first | rfl | cases ht
    rw [e]
    simp (decide := true) only [runFd, f_is_machine, EV, q_lcl, asgM, callM, callR, ioIx, argSls, argSl, ioSl, callE, putOuts, outsOf, goodArgs, ioAt, startS, Ob.val, List.set_cons_zero, List.set_cons_succ, List.length_cons, List.length_nil, Nat.reduceAdd, Nat.reduceSub, Nat.reduceLT, Nat.sub_self, List.replicate_zero, List.replicate_succ, List.cons_append, List.nil_append, List.append_nil, reduceIte, Option.map_some, Option.map_none, List.not_mem_nil, List.nodup_nil, if_true, if_false, Bool.false_eq_true, eq_self, or_self, or_false, false_or, Bool.not_true, Bool.not_false, List.map_cons, List.map_nil, decide_true, decide_false, ht]
  | true =>
    obtain ⟨xs, rfl⟩ : ∃ xs, d = .tuple xs := by cases d <;> first | exact ⟨_, rfl⟩ | cases ht
    have e : maD (.tuple xs) = (decide (1 ≤ (xs.length : Int)) && (decide ((xs.length : Int) ≤ 7) && goD [] xs)) := rfl
    rw [e]
    by_cases c1 : 1 ≤ (xs.length : Int)
    · by_cases c7 : (xs.length : Int) ≤ 7
      · obtain ⟨z1, z2, lg⟩ := mac_go (k := k) (by omega) xs [] .un .un (fun _ h => nomatch h) (hd xs rfl)
        have lp : evS (calAt g.pr k) [] l0_is_machine [.sh (.tuple xs), .un, .un] = .ok (if goD [] xs then .nx else .rt (.sh (.bool false))) [.sh (.tuple xs), z1, z2] := fo_of rfl rfl lg
        cases hg : goD [] xs <;> rw [hg] at lp <;> simp (decide := true) only [runFd, f_is_machine, EV, q_lcl, asgM, callM, callR, ioIx, argSls, argSl, ioSl, callE, putOuts, outsOf, goodArgs, ioAt, startS, Ob.val, List.set_cons_zero, List.set_cons_succ, List.length_cons, List.length_nil, Nat.reduceAdd, Nat.reduceSub, Nat.reduceLT, Nat.sub_self, List.replicate_zero, List.replicate_succ, List.cons_append, List.nil_append, List.append_nil, reduceIte, Option.map_some, Option.map_none, List.not_mem_nil, List.nodup_nil, if_true, if_false, Bool.false_eq_true, eq_self, or_self, or_false, false_or, Bool.not_true, Bool.not_false, List.map_cons, List.map_nil, decide_true, decide_false, tup_t, len_t, k_le, c1, c7, lp, Bool.and_false, Bool.and_true, Bool.true_and] <;> rfl
      · simp (decide := true) only [runFd, f_is_machine, EV, q_lcl, asgM, callM, callR, ioIx, argSls, argSl, ioSl, callE, putOuts, outsOf, goodArgs, ioAt, startS, Ob.val, List.set_cons_zero, List.set_cons_succ, List.length_cons, List.length_nil, Nat.reduceAdd, Nat.reduceSub, Nat.reduceLT, Nat.sub_self, List.replicate_zero, List.replicate_succ, List.cons_append, List.nil_append, List.append_nil, reduceIte, Option.map_some, Option.map_none, List.not_mem_nil, List.nodup_nil, if_true, if_false, Bool.false_eq_true, eq_self, or_self, or_false, false_or, Bool.not_true, Bool.not_false, List.map_cons, List.map_nil, decide_true, decide_false, tup_t, len_t, k_le, c1, c7, Bool.false_and, Bool.and_false]
    · simp (decide := true) only [runFd, f_is_machine, EV, q_lcl, asgM, callM, callR, ioIx, argSls, argSl, ioSl, callE, putOuts, outsOf, goodArgs, ioAt, startS, Ob.val, List.set_cons_zero, List.set_cons_succ, List.length_cons, List.length_nil, Nat.reduceAdd, Nat.reduceSub, Nat.reduceLT, Nat.sub_self, List.replicate_zero, List.replicate_succ, List.cons_append, List.nil_append, List.append_nil, reduceIte, Option.map_some, Option.map_none, List.not_mem_nil, List.nodup_nil, if_true, if_false, Bool.false_eq_true, eq_self, or_self, or_false, false_or, Bool.not_true, Bool.not_false, List.map_cons, List.map_nil, decide_true, decide_false, tup_t, len_t, k_le, c1, Bool.false_and]
theorem due_turn {k : Nat} (h : 5 ≤ k) {ah r : List D} {d : D} (H : Ah ah) (hd : Sp d) (y1 : Sl) :
    ((putT (.name 1) (.int (ah.length : Int))).bind fun _ => evSs (calAt g.pr k) [] b1__law_due) [.sh (.tuple (ah ++ d :: r)), y1] = .ok (if stD ah d then .nx else .rt (.sh (.bool false))) [.sh (.tuple (ah ++ d :: r)), .sh (.int (ah.length : Int))] := by
  have rs := r_lstep (k := k) h H d hd
  have cu := cut_ah ah (d :: r)
  have at_ : ixD (.tuple (ah ++ d :: r)) (.int (ah.length : Int)) = some d := L2.atI_nat (xs := ah ++ d :: r) (j := ah.length) (by rw [List.getElem?_append_right (Nat.le_refl _), Nat.sub_self]; rfl)
  generalize ah ++ d :: r = m at *
  cases hb : stD ah d <;> rw [hb] at rs <;> simp (decide := true) only [b1__law_due, EV, q_lcl, asgM, callM, callR, ioIx, argSls, argSl, ioSl, callE, putOuts, outsOf, goodArgs, ioAt, startS, Ob.val, List.set_cons_zero, List.set_cons_succ, List.length_cons, List.length_nil, Nat.reduceAdd, Nat.reduceSub, Nat.reduceLT, Nat.sub_self, List.replicate_zero, List.replicate_succ, List.cons_append, List.nil_append, List.append_nil, reduceIte, Option.map_some, Option.map_none, List.not_mem_nil, List.nodup_nil, if_true, if_false, Bool.false_eq_true, eq_self, or_self, or_false, false_or, Bool.not_true, Bool.not_false, List.map_cons, List.map_nil, decide_true, decide_false, q_pt, p_non, p_varM', at_, cu, rs] <;> rfl
theorem due_go {k : Nat} (h : 5 ≤ k) : ∀ (r ah : List D) (y1 : Sl), Ah ah → (∀ d ∈ r, Sp d) → ∃ z1,
    foGo (fun d => (putT (.name 1) d).bind fun _ => evSs (calAt g.pr k) [] b1__law_due) ((List.range' ah.length r.length).map fun (i : Nat) => .int (i : Int)) [.sh (.tuple (ah ++ r)), y1] = .ok (if goD ah r then .nx else .rt (.sh (.bool false))) [.sh (.tuple (ah ++ r)), z1]
  | [], ah, y1, _, _ => ⟨y1, rfl⟩
  | d :: r, ah, y1, H, hs => by
    have t := due_turn (k := k) h (r := r) H (hs d List.mem_cons_self) y1
    cases hb : stD ah d with
    | false =>
      rw [hb] at t
      refine ⟨.sh (.int (ah.length : Int)), ?_⟩
      have e : goD ah (d :: r) = false := by
        show (stD ah d && goD (ah ++ [d]) r) = false
        rw [hb, Bool.false_and]
      rw [e]
      exact foGo_r t
    | true =>
      rw [hb] at t
      have e : goD ah (d :: r) = goD (ah ++ [d]) r := by
        show (stD ah d && goD (ah ++ [d]) r) = _
        rw [hb, Bool.true_and]
      rw [e]
      obtain ⟨z1, ih⟩ := due_go h r (ah ++ [d]) (.sh (.int (ah.length : Int))) (ah_snoc H hb (hs d List.mem_cons_self)) fun x hx => hs x (List.mem_cons_of_mem _ hx)
      have a : ah ++ [d] ++ r = ah ++ d :: r := by rw [List.append_assoc]; rfl
      have l : (ah ++ [d]).length = ah.length + 1 := by rw [List.length_append]; rfl
      rw [a, l] at ih
      refine ⟨z1, ?_⟩
      show foGo _ (PyData.int (ah.length : Int) :: (List.range' (ah.length + 1) r.length).map fun (i : Nat) => .int (i : Int)) _ = _
      rw [foGo_t t]
      exact ih
theorem r_ldue {k : Nat} (h : 6 ≤ k) (d : D) (hd : TG d) : (calAt g.pr k).run i__law_due [.sh d] = .ok (.sh (.bool (maD d))) [] := by
  obtain ⟨k, rfl⟩ := Nat.exists_eq_add_of_le' (show 1 ≤ k by omega)
  rw [rr k (t := ⟨f__law_due, _, _, _⟩) rfl]
  cases ht : [Ty.tuple].any (isTy d) with
  | false =>
    have e : maD d = false := by cases d <;> first | rfl | cases ht
    rw [e]
    simp (decide := true) only [runFd, f__law_due, EV, q_lcl, asgM, callM, callR, ioIx, argSls, argSl, ioSl, callE, putOuts, outsOf, goodArgs, ioAt, startS, Ob.val, List.set_cons_zero, List.set_cons_succ, List.length_cons, List.length_nil, Nat.reduceAdd, Nat.reduceSub, Nat.reduceLT, Nat.sub_self, List.replicate_zero, List.replicate_succ, List.cons_append, List.nil_append, List.append_nil, reduceIte, Option.map_some, Option.map_none, List.not_mem_nil, List.nodup_nil, if_true, if_false, Bool.false_eq_true, eq_self, or_self, or_false, false_or, Bool.not_true, Bool.not_false, List.map_cons, List.map_nil, decide_true, decide_false, ht]
  | true =>
    obtain ⟨xs, rfl⟩ : ∃ xs, d = .tuple xs := by cases d <;> first | exact ⟨_, rfl⟩ | cases ht
    have e : maD (.tuple xs) = (decide (1 ≤ (xs.length : Int)) && (decide ((xs.length : Int) ≤ 7) && goD [] xs)) := rfl
    rw [e]
    by_cases c1 : 1 ≤ (xs.length : Int)
    · by_cases c7 : (xs.length : Int) ≤ 7
      · obtain ⟨z1, lg⟩ := due_go (k := k) (by omega) xs [] .un (fun _ h => nomatch h) (hd xs rfl)
        have sr : evSrc (calAt g.pr k) (.rng (.cons (.bf .len (.cons (.var 0) .nil)) .nil)) [.sh (.tuple xs), .un] = .ok ((List.range' 0 xs.length).map fun (i : Nat) => PyData.int (i : Int)) [.sh (.tuple xs), .un] := by
          rw [← List.range_eq_range']
          exact src_rng1 (by simp (decide := true) only [EV, q_lcl, asgM, callM, callR, ioIx, argSls, argSl, ioSl, callE, putOuts, outsOf, goodArgs, ioAt, startS, Ob.val, List.set_cons_zero, List.set_cons_succ, List.length_cons, List.length_nil, Nat.reduceAdd, Nat.reduceSub, Nat.reduceLT, Nat.sub_self, List.replicate_zero, List.replicate_succ, List.cons_append, List.nil_append, List.append_nil, reduceIte, Option.map_some, Option.map_none, List.not_mem_nil, List.nodup_nil, if_true, if_false, Bool.false_eq_true, eq_self, or_self, or_false, false_or, Bool.not_true, Bool.not_false, List.map_cons, List.map_nil, decide_true, decide_false, len_t]) (rng_1 (by omega))
        have lp : evS (calAt g.pr k) [] l0__law_due [.sh (.tuple xs), .un] = .ok (if goD [] xs then .nx else .rt (.sh (.bool false))) [.sh (.tuple xs), z1] := fo_of rfl sr lg
        cases hg : goD [] xs <;> rw [hg] at lp <;> simp (decide := true) only [runFd, f__law_due, EV, q_lcl, asgM, callM, callR, ioIx, argSls, argSl, ioSl, callE, putOuts, outsOf, goodArgs, ioAt, startS, Ob.val, List.set_cons_zero, List.set_cons_succ, List.length_cons, List.length_nil, Nat.reduceAdd, Nat.reduceSub, Nat.reduceLT, Nat.sub_self, List.replicate_zero, List.replicate_succ, List.cons_append, List.nil_append, List.append_nil, reduceIte, Option.map_some, Option.map_none, List.not_mem_nil, List.nodup_nil, if_true, if_false, Bool.false_eq_true, eq_self, or_self, or_false, false_or, Bool.not_true, Bool.not_false, List.map_cons, List.map_nil, decide_true, decide_false, tup_t, len_t, k_le, c1, c7, lp, Bool.and_false, Bool.and_true, Bool.true_and] <;> rfl
      · simp (decide := true) only [runFd, f__law_due, EV, q_lcl, asgM, callM, callR, ioIx, argSls, argSl, ioSl, callE, putOuts, outsOf, goodArgs, ioAt, startS, Ob.val, List.set_cons_zero, List.set_cons_succ, List.length_cons, List.length_nil, Nat.reduceAdd, Nat.reduceSub, Nat.reduceLT, Nat.sub_self, List.replicate_zero, List.replicate_succ, List.cons_append, List.nil_append, List.append_nil, reduceIte, Option.map_some, Option.map_none, List.not_mem_nil, List.nodup_nil, if_true, if_false, Bool.false_eq_true, eq_self, or_self, or_false, false_or, Bool.not_true, Bool.not_false, List.map_cons, List.map_nil, decide_true, decide_false, tup_t, len_t, k_le, c1, c7, Bool.false_and, Bool.and_false]
    · simp (decide := true) only [runFd, f__law_due, EV, q_lcl, asgM, callM, callR, ioIx, argSls, argSl, ioSl, callE, putOuts, outsOf, goodArgs, ioAt, startS, Ob.val, List.set_cons_zero, List.set_cons_succ, List.length_cons, List.length_nil, Nat.reduceAdd, Nat.reduceSub, Nat.reduceLT, Nat.sub_self, List.replicate_zero, List.replicate_succ, List.cons_append, List.nil_append, List.append_nil, reduceIte, Option.map_some, Option.map_none, List.not_mem_nil, List.nodup_nil, if_true, if_false, Bool.false_eq_true, eq_self, or_self, or_false, false_or, Bool.not_true, Bool.not_false, List.map_cons, List.map_nil, decide_true, decide_false, tup_t, len_t, k_le, c1, Bool.false_and]
end Lw
set_option Elab.async false
set_option linter.all false
set_option maxRecDepth 100000
set_option maxHeartbeats 400000
/-! Law k41: machines drawn. -/
namespace Lw
open PySem Hg
theorem r_above {k : Nat} (h : 3 ≤ k) {s : Int} {b : Bool} (iv : Iv s b) : ∃ (q : Rat) (s' : Int), 0 < q ∧ Bt 5 q ∧ Iv s' b ∧ (calAt g.pr k).run i__law_above [.ow (so s b)] = .ok (.sh (fr q)) [so s' b] := by
  obtain ⟨k, rfl⟩ := Nat.exists_eq_add_of_le' (show 1 ≤ k by omega)
  rw [rr k (t := ⟨f__law_above, _, _, _⟩) rfl]
  obtain ⟨r1, s1, a1, a2, iv1, e1⟩ := r_take (k := k) (by omega) iv (m := 12) (by decide) (by decide)
  obtain ⟨r2, s2, b1, b2, iv2, e2⟩ := r_take (k := k) (by omega) iv1 (m := 6) (by decide) (by decide)
  obtain ⟨r3, s3, c1, c2, iv3, e3⟩ := r_take (k := k) (by omega) iv2 (m := 3) (by decide) (by decide)
  have hx : ∃ x : Int, 0 ≤ x ∧ x < 6 ∧ ixD (.list [.int 0, .int 0, .int r2]) (.int r3) = some (.int x) := by
    rcases (show r3 = 0 ∨ r3 = 1 ∨ r3 = 2 by omega) with rfl | rfl | rfl
    · exact ⟨0, by decide, by decide, rfl⟩
    · exact ⟨0, by decide, by decide, rfl⟩
    · exact ⟨r2, b1, b2, rfl⟩
  obtain ⟨x, x0, x1, hx⟩ := hx
  have hd : (1 + x) ≠ 0 := by omega
  have bd : Bi 5 (1 + x) := by unfold Bi; omega
  have bn : Bi 5 (1 + r1) := by unfold Bi; omega
  have rt := r_lratio (k := k) (by omega) (a := 1 + r1) hd (bd.mono (by decide))
  refine ⟨Rat.divInt (1 + r1) (1 + x), s3, ?_, Bt.divInt hd bn bd, iv3, ?_⟩
  · rw [Rat.divInt_eq_div]
    have p1 : (0 : Rat) < ((1 + r1 : Int) : Rat) := Rat.intCast_pos.mpr (by omega)
    have p2 : (0 : Rat) < ((1 + x : Int) : Rat) := Rat.intCast_pos.mpr (by omega)
    rw [Rat.div_def]
    exact Rat.mul_pos p1 (Rat.inv_pos.mpr p2)
  · unfold so at *
    simp (decide := true) only [runFd, f__law_above, EV, q_lcl, asgM, callM, callR, ioIx, argSls, argSl, ioSl, callE, putOuts, outsOf, goodArgs, ioAt, startS, Ob.val, List.set_cons_zero, List.set_cons_succ, List.length_cons, List.length_nil, Nat.reduceAdd, Nat.reduceSub, Nat.reduceLT, Nat.sub_self, List.replicate_zero, List.replicate_succ, List.cons_append, List.nil_append, List.append_nil, reduceIte, Option.map_some, Option.map_none, List.not_mem_nil, List.nodup_nil, if_true, if_false, Bool.false_eq_true, eq_self, or_self, or_false, false_or, Bool.not_true, Bool.not_false, List.map_cons, List.map_nil, decide_true, decide_false, q_ownL, e1, e2, e3, hx, rt, List.nodup_cons]
theorem fr_fr (q : Rat) : frD (fr q) = true := by
  show (decide (1 ≤ (q.den : Int)) && decide (q.num.natAbs.gcd ((q.den : Int)).natAbs = 1)) = true
  have p := q.den_pos
  rw [decide_eq_true (show 1 ≤ (q.den : Int) by omega), Int.natAbs_natCast, decide_eq_true (show q.num.natAbs.gcd q.den = 1 from q.reduced)] <;> rfl
theorem ab_fr {q : Rat} (h : 0 < q) : abD (fr q) = true := by
  rw [ab_of (fr_fr q)]
  have z : 0 < q.num := by
    have n0 : 0 ≤ q.num := Rat.num_nonneg.mpr (Rat.le_of_lt h)
    have n1 : q.num ≠ 0 := fun e => by
      rw [Rat.num_eq_zero] at e
      rw [e] at h
      exact absurd h (Rat.lt_irrefl)
    omega
  exact decide_eq_true z
theorem shp_fr (q : Rat) : Shp 2 (fr q) := shp_tup fun x hx => by
  simp only [List.mem_cons, List.not_mem_nil, or_false] at hx
  rcases hx with rfl | rfl <;> exact shp_int _
theorem r_two {k : Nat} (h : 2 ≤ k) {s : Int} {b : Bool} (iv : Iv s b) {m : Int} (h2 : 2 ≤ m) (h9 : m ≤ 9) : ∃ (i j s' : Int), 0 ≤ i ∧ i < m ∧ 0 ≤ j ∧ j < m ∧ i ≠ j ∧ Iv s' b ∧ (calAt g.pr k).run i__law_two_joints [.ow (so s b), .sh (.int m)] = .ok (.sh (.tuple [.int i, .int j])) [so s' b] := by
  obtain ⟨k, rfl⟩ := Nat.exists_eq_add_of_le' (show 1 ≤ k by omega)
  rw [rr k (t := ⟨f__law_two_joints, _, _, _⟩) rfl]
  obtain ⟨r1, s1, a1, a2, iv1, e1⟩ := r_take (k := k) (by omega) iv (m := m) (by omega) (by omega)
  obtain ⟨r2, s2, b1, b2, iv2, e2⟩ := r_take (k := k) (by omega) iv1 (m := m - 1) (by omega) (by omega)
  have m0 : m ≠ 0 := by omega
  obtain ⟨f1, f2⟩ := fmod_in (a := r1 + 1 + r2) (m := m) (by omega)
  have ne : r1 ≠ (r1 + 1 + r2).fmod m := by
    rw [Int.fmod_eq_emod_of_nonneg _ (by omega)]
    by_cases c : r1 + 1 + r2 < m
    · rw [Int.emod_eq_of_lt (by omega) c]
      omega
    · have e : (r1 + 1 + r2) % m = (r1 + 1 + r2 - m) % m := (Int.sub_emod_right _ _).symm
      rw [e, Int.emod_eq_of_lt (by omega) (by omega)]
      omega
  refine ⟨r1, (r1 + 1 + r2).fmod m, s2, a1, a2, f1, f2, ne, iv2, ?_⟩
  unfold so at *
  simp (decide := true) only [runFd, f__law_two_joints, EV, q_lcl, asgM, callM, callR, ioIx, argSls, argSl, ioSl, callE, putOuts, outsOf, goodArgs, ioAt, startS, Ob.val, List.set_cons_zero, List.set_cons_succ, List.length_cons, List.length_nil, Nat.reduceAdd, Nat.reduceSub, Nat.reduceLT, Nat.sub_self, List.replicate_zero, List.replicate_succ, List.cons_append, List.nil_append, List.append_nil, reduceIte, Option.map_some, Option.map_none, List.not_mem_nil, List.nodup_nil, if_true, if_false, Bool.false_eq_true, eq_self, or_self, or_false, false_or, Bool.not_true, Bool.not_false, List.map_cons, List.map_nil, decide_true, decide_false, q_ownL, e1, e2, k_mod m0, List.nodup_cons]
abbrev T10 (x0 x1 x2 x3 x4 x5 x6 x7 x8 x9 : Sl) : S := [x0, x1, x2, x3, x4, x5, x6, x7, x8, x9]
def fxs (ms : List D) : List D := (List.range ms.length).filterMap fun (i : Nat) => if fixAt ms (.int (i : Int)) then some (.int (i : Int)) else none
theorem fx_in {ms : List D} : ∀ d ∈ fxs ms, ∃ i : Int, d = .int i ∧ 0 ≤ i ∧ i < ms.length ∧ fixAt ms (.int i) = true := fun d hd => by
  obtain ⟨i, hi, e⟩ := List.mem_filterMap.mp hd
  have hi := List.mem_range.mp hi
  by_cases c : fixAt ms (.int (i : Int)) = true
  · rw [if_pos c] at e
    exact ⟨i, (Option.some.inj e).symm, by omega, by omega, c⟩
  · rw [if_neg c] at e
    cases e
theorem fx_len {ms : List D} : (fxs ms).length ≤ ms.length := by
  have z := List.length_filterMap_le (fun i : Nat => if fixAt ms (.int (i : Int)) then some (PyData.int (i : Int)) else none) (List.range ms.length)
  rw [List.length_range] at z
  exact z
theorem fx_some {ms : List D} (h : 0 < ms.length) (h0 : fixAt ms (.int 0) = true) : 0 < (fxs ms).length := by
  have z : PyData.int ((0 : Nat) : Int) ∈ fxs ms := List.mem_filterMap.mpr ⟨0, List.mem_range.mpr h, if_pos (show fixAt ms (.int ((0 : Nat) : Int)) = true from h0)⟩
  exact List.length_pos_of_mem z
theorem r_fixes {k : Nat} {ms : List D} (H : Ah ms) (hn : ms.length ≤ 7) (x0 : Sl) : evE (calAt g.pr k) c0__law_next_step (T10 x0 (.sh (.tuple ms)) (.sh (.int (ms.length : Int))) .un .un .un .un .un .un .un) = .ok (.ow (.lst (fxs ms))) (T10 x0 (.sh (.tuple ms)) (.sh (.int (ms.length : Int))) .un .un .un .un .un .un .un) := by
  have sr : evSrc (calAt g.pr k) (.rng (.cons (.var 2) .nil)) (T10 x0 (.sh (.tuple ms)) (.sh (.int (ms.length : Int))) .un .un .un .un .un .un .un) = .ok ((List.range ms.length).map fun (i : Nat) => PyData.int (i : Int)) (T10 x0 (.sh (.tuple ms)) (.sh (.int (ms.length : Int))) .un .un .un .un .un .un .un) := src_rng1 rfl (rng_1 (by omega))
  have sz : (List.range ms.length).length < sizeLine := by
    rw [List.length_range]
    exact Nat.lt_of_le_of_lt hn (by decide)
  refine lcM_all (own := [4]) (turn := lcT (calAt g.pr k) (.name 4) (.cmp .Eq (.ix (.ix (.var 1) (.var 4)) (.int 0)) (.str "fix")) (.var 4)) (f := fun (i : Nat) => PyData.int (i : Int)) (xs := List.range ms.length) (o := fun i => if fixAt ms (.int (i : Int)) then some (.int (i : Int)) else none) sr sz (fun i hi => by rw [List.mem_singleton.mp hi]; show 4 < 10; decide) rfl fun i hi => ?_
  have hi := List.mem_range.mp hi
  obtain ⟨s, r, e1, s1, e2⟩ := ah_at H (i := (i : Int)) (by omega) (by omega)
  have e3 := str_eq s1 "fix" sh_fix
  refine ⟨T10 x0 (.sh (.tuple ms)) (.sh (.int (ms.length : Int))) .un (.sh (.int (i : Int))) .un .un .un .un .un, ?_, rfl⟩
  cases hf : fixAt ms (.int (i : Int)) <;> rw [hf] at e2 <;> rw [← e2] at e3 <;> simp (decide := true) only [lcT, wipeS, EV, q_lcl, asgM, callM, callR, ioIx, argSls, argSl, ioSl, callE, putOuts, outsOf, goodArgs, ioAt, startS, Ob.val, List.set_cons_zero, List.set_cons_succ, List.length_cons, List.length_nil, Nat.reduceAdd, Nat.reduceSub, Nat.reduceLT, Nat.sub_self, List.replicate_zero, List.replicate_succ, List.cons_append, List.nil_append, List.append_nil, reduceIte, Option.map_some, Option.map_none, List.not_mem_nil, List.nodup_nil, if_true, if_false, Bool.false_eq_true, eq_self, or_self, or_false, false_or, Bool.not_true, Bool.not_false, List.map_cons, List.map_nil, decide_true, decide_false, q_pt, e1, head0, e3] <;> rfl
theorem shp_step {s : Str} {r : List D} (h : SeqAt.shaped (.str s) = true) (hr : ∀ x ∈ r, Shp 2 x) : Shp 3 (.tuple (.str s :: r)) := shp_tup fun x hx => by
  rcases List.mem_cons.mp hx with rfl | hx
  · exact (shp_str h).mono (by decide)
  · exact hr x hx
theorem jt_of {n i : Int} (h0 : 0 ≤ i) (h1 : i < n) : jtD n (.int i) = true := by
  show (decide (0 ≤ i) && decide (i < n)) = true
  rw [decide_eq_true h0, decide_eq_true h1] <;> rfl
theorem un_of {i j : Int} (h : i ≠ j) : unD (.int i) (.int j) = true := decide_eq_true h
theorem sd_of {i : Int} (h0 : 0 ≤ i) (h1 : i < 2) : sdD (.int i) = true := by
  show (decide (0 ≤ i) && decide (i ≤ 1)) = true
  rw [decide_eq_true h0, decide_eq_true (show i ≤ 1 by omega)] <;> rfl
/-- squares of a pair -/
theorem r_square {k : Nat} (h : 4 ≤ k) {s : Int} {b : Bool} (iv : Iv s b) (x1 x2 x3 x4 x5 x6 x7 x8 y : Sl) (t : Int) : ∃ (q : Rat) (s' : Int), 0 < q ∧ Iv s' b ∧
    lcT (calAt g.pr k) (.name 9) (.bl true) (.call 15 (.cons (.call 18 (.cons (.var 0) .nil)) (.cons (.tup (.cons (.bin .Add (.int 1) (.call 10 (.cons (.var 0) (.cons (.int 9) .nil)))) (.cons (.int 1) .nil))) .nil))) (.int t) (T10 (.ow (so s b)) x1 x2 x3 x4 x5 x6 x7 x8 y) = .ok (some (fr q)) (T10 (.ow (so s' b)) x1 x2 x3 x4 x5 x6 x7 x8 (.sh (.int t))) := by
  obtain ⟨q, s1, q0, bq, iv1, e1⟩ := r_above (k := k) (by omega) iv
  obtain ⟨r, s2, a1, a2, iv2, e2⟩ := r_take (k := k) (by omega) iv1 (m := 9) (by decide) (by decide)
  have eb : ((1 + r : Int) : Rat) = (((1 + r).toNat : Nat) : Rat) := by
    have z : (((1 + r).toNat : Nat) : Int) = 1 + r := by omega
    rw [← z, Int.toNat_natCast]
    rfl
  have bb : Bt 10 ((1 + r : Int) : Rat) := by
    rw [eb]
    exact Bt.nat (by decide) (by omega)
  have r1 := r_ltimes (k := k) (by omega) (bq.mono (show 5 ≤ 3900 by decide)) (bb.mono (show 10 ≤ 3900 by decide))
  have e : fr ((1 + r : Int) : Rat) = .tuple [.int (1 + r), .int 1] := rfl
  rw [e] at r1
  refine ⟨q * ((1 + r : Int) : Rat), s2, Rat.mul_pos q0 (Rat.intCast_pos.mpr (by omega)), iv2, ?_⟩
  unfold so T10 at *
  generalize fr (q * ((1 + r : Int) : Rat)) = w at *
  generalize fr q = q' at *
  simp (decide := true) only [lcT, EV, q_lcl, asgM, callM, callR, ioIx, argSls, argSl, ioSl, callE, putOuts, outsOf, goodArgs, ioAt, startS, Ob.val, List.set_cons_zero, List.set_cons_succ, List.length_cons, List.length_nil, Nat.reduceAdd, Nat.reduceSub, Nat.reduceLT, Nat.sub_self, List.replicate_zero, List.replicate_succ, List.cons_append, List.nil_append, List.append_nil, reduceIte, Option.map_some, Option.map_none, List.not_mem_nil, List.nodup_nil, if_true, if_false, Bool.false_eq_true, eq_self, or_self, or_false, false_or, Bool.not_true, Bool.not_false, List.map_cons, List.map_nil, decide_true, decide_false, q_ownL, q_pt, e1, e2, r1, List.nodup_cons]
theorem fix_is (ah : List D) (a b : D) : stD ah (.tuple [.str "fix", a, b]) = (frD a && frD b) := rfl
theorem isFix_fix (r : List D) : isFix (.tuple (.str "fix" :: r)) = true := by
  unfold isFix
  simp
theorem ite_t {C : Cal} {P : List Nat} {e : Ex} {a b : Sts} {s s1 : S} {r : Hg.R Fl} (h : testM (evE C e) s = .ok true s1) (h2 : evSs C P a s1 = r) : evS C P (.ite e a b) s = r := by
  show ((testM (evE C e) s).bind fun k => if k then evSs C P a else evSs C P b) = r
  rw [h]
  exact h2
theorem ite_f {C : Cal} {P : List Nat} {e : Ex} {a : Sts} {s s1 : S} (h : testM (evE C e) s = .ok false s1) : evS C P (.ite e a .nil) s = .ok .nx s1 := by
  show ((testM (evE C e) s).bind fun k => if k then evSs C P a else evSs C P .nil) = _
  rw [h]
  rfl
theorem ss_nx {C : Cal} {P : List Nat} {s : St} {t : Sts} {a b : S} (h : evS C P s a = .ok .nx b) : evSs C P (.cons s t) a = evSs C P t b := by
  rw [q_cons]
  show ((evS C P s a).bind _) = _
  rw [h]
  rfl
theorem run_of {C : Cal} {fd : Fd} {vs : List Sl} {r : Sl} {s : S} {outs : List Ob} (hg : goodArgs fd.io vs = true) (hb : evSs C (ioAt 0 fd.io) fd.body (startS fd.N.length vs) = .ok (.rt r) s) (ho : outsOf s (ioAt 0 fd.io) = some outs) : runFd C fd vs = .ok r outs := by
  unfold runFd
  rw [if_pos hg, hb]
  dsimp only
  rw [ho]
theorem ss_rt {C : Cal} {P : List Nat} {s : St} {t : Sts} {a b : S} {r : Sl} (h : evS C P s a = .ok (.rt r) b) : evSs C P (.cons s t) a = .ok (.rt r) b := by
  rw [q_cons]
  show ((evS C P s a).bind _) = _
  rw [h]
  rfl
abbrev ns1 : Hg.St := (.asg (.name 2) (.bf .len (.cons (.var 1) .nil)))
abbrev ns2 : Hg.St := (.asg (.name 3) (c0__law_next_step))
abbrev ns3 : Hg.St := (.asg (.name 5) (.call 10 (.cons (.var 0) (.cons (.int 8) .nil))))
abbrev ns4 : Hg.St := (.ite (.or (.cons (.cmp .Eq (.var 2) (.int 0)) (.cons (.cmp .Eq (.var 5) (.int 0)) (.cons (.and (.cons (.cmp .Lt (.var 2) (.int 2)) (.cons (.cmp .Lt (.var 5) (.int 4)) .nil))) .nil)))) (.cons (.ret (.tup (.cons (.str "fix") (.cons (.call 17 (.cons (.var 0) .nil)) (.cons (.call 17 (.cons (.var 0) .nil)) .nil))))) .nil) (.nil))
abbrev ns5 : Hg.St := (.ite (.or (.cons (.cmp .Lt (.var 2) (.int 2)) (.cons (.cmp .Lt (.var 5) (.int 3)) .nil))) (.cons (.ret (.tup (.cons (.str "crank") (.cons (.ix (.var 3) (.call 10 (.cons (.var 0) (.cons (.bf .len (.cons (.var 3) .nil)) .nil)))) (.cons (.call 18 (.cons (.var 0) .nil)) .nil))))) .nil) (.nil))
abbrev ns6 : Hg.St := (.asg (.tup (.cons (.name 7) (.cons (.name 6) .nil))) (.call 19 (.cons (.var 0) (.cons (.var 2) .nil))))
abbrev ns7 : Hg.St := (.ite (.cmp .Lt (.var 5) (.int 6)) (.cons (.asg (.name 8) (c1__law_next_step))  (.cons (.ret (.tup (.cons (.str "pair") (.cons (.var 7) (.cons (.var 6) (.cons (.ix (.var 8) (.int 0)) (.cons (.ix (.var 8) (.int 1)) (.cons (.call 10 (.cons (.var 0) (.cons (.int 2) .nil))) .nil)))))))) .nil)) (.nil))
abbrev ns8 : Hg.St := (.ret (.tup (.cons (.str "like") (.cons (.var 7) (.cons (.var 6) (.cons (.call 17 (.cons (.var 0) .nil)) (.cons (.call 17 (.cons (.var 0) .nil)) .nil)))))))
theorem r_next {k : Nat} (h : 6 ≤ k) {s : Int} {b : Bool} (iv : Iv s b) {ms : List D} (H : Ah ms) (hn : ms.length ≤ 7) (h0 : 0 < ms.length → fixAt ms (.int 0) = true) : ∃ (d : D) (s' : Int), stD ms d = true ∧ Shp 3 d ∧ (ms.length = 0 → isFix d = true) ∧ Iv s' b ∧
    (calAt g.pr k).run i__law_next_step [.ow (so s b), .sh (.tuple ms)] = .ok (.sh d) [so s' b] := by
  obtain ⟨k, rfl⟩ := Nat.exists_eq_add_of_le' (show 1 ≤ k by omega)
  rw [rr k (t := ⟨f__law_next_step, _, _, _⟩) rfl]
  obtain ⟨w, s1, w0, w8, iv1, e1⟩ := r_take (k := k) (by omega) iv (m := 8) (by decide) (by decide)
  have fx := r_fixes (k := k) H hn (.ow (so s b))
  have ln : bfD .len [.tuple ms] = some (.sh (.int (ms.length : Int))) := rfl
  have n0 : (0 : Int) ≤ ms.length := by omega
  have fl := fx_some (ms := ms)
  have fm := fx_len (ms := ms)
  have fi := fx_in (ms := ms)
  generalize hF : fxs ms = F at *
  have a1 : evS (calAt g.pr k) [0] ns1 (T10 (.ow (so s b)) (.sh (.tuple ms)) .un .un .un .un .un .un .un .un) = .ok .nx (T10 (.ow (so s b)) (.sh (.tuple ms)) (.sh (.int (ms.length : Int))) .un .un .un .un .un .un .un) := by
    simp (decide := true) only [ns1, T10, EV, q_lcl, asgM, callM, callR, ioIx, argSls, argSl, ioSl, callE, putOuts, outsOf, goodArgs, ioAt, startS, Ob.val, List.set_cons_zero, List.set_cons_succ, List.length_cons, List.length_nil, Nat.reduceAdd, Nat.reduceSub, Nat.reduceLT, Nat.sub_self, List.replicate_zero, List.replicate_succ, List.cons_append, List.nil_append, List.append_nil, reduceIte, Option.map_some, Option.map_none, List.not_mem_nil, List.nodup_nil, if_true, if_false, Bool.false_eq_true, eq_self, or_self, or_false, false_or, Bool.not_true, Bool.not_false, List.map_cons, List.map_nil, decide_true, decide_false, q_ownL, q_pt, ln]
  have a2 : evS (calAt g.pr k) [0] ns2 (T10 (.ow (so s b)) (.sh (.tuple ms)) (.sh (.int (ms.length : Int))) .un .un .un .un .un .un .un) = .ok .nx (T10 (.ow (so s b)) (.sh (.tuple ms)) (.sh (.int (ms.length : Int))) (.ow (.lst F)) .un .un .un .un .un .un) := by
    show ((evE (calAt g.pr k) c0__law_next_step (T10 (.ow (so s b)) (.sh (.tuple ms)) (.sh (.int (ms.length : Int))) .un .un .un .un .un .un .un)).bind fun r => nx (setS 3 r)) = _
    rw [fx]
    rfl
  have a3 : evS (calAt g.pr k) [0] ns3 (T10 (.ow (so s b)) (.sh (.tuple ms)) (.sh (.int (ms.length : Int))) (.ow (.lst F)) .un .un .un .un .un .un) = .ok .nx (T10 (.ow (so s1 b)) (.sh (.tuple ms)) (.sh (.int (ms.length : Int))) (.ow (.lst F)) .un (.sh (.int w)) .un .un .un .un) := by
    unfold so at *
    simp (decide := true) only [ns3, T10, EV, q_lcl, asgM, callM, callR, ioIx, argSls, argSl, ioSl, callE, putOuts, outsOf, goodArgs, ioAt, startS, Ob.val, List.set_cons_zero, List.set_cons_succ, List.length_cons, List.length_nil, Nat.reduceAdd, Nat.reduceSub, Nat.reduceLT, Nat.sub_self, List.replicate_zero, List.replicate_succ, List.cons_append, List.nil_append, List.append_nil, reduceIte, Option.map_some, Option.map_none, List.not_mem_nil, List.nodup_nil, if_true, if_false, Bool.false_eq_true, eq_self, or_self, or_false, false_or, Bool.not_true, Bool.not_false, List.map_cons, List.map_nil, decide_true, decide_false, q_ownL, q_pt, e1, List.nodup_cons]
  generalize hN : (ms.length : Int) = n at *
  by_cases cA : (n = 0 ∨ w = 0) ∨ (n < 2 ∧ w < 4)
  · obtain ⟨p, s2, bp, iv2, e2⟩ := r_small (k := k) (by omega) iv1
    obtain ⟨q, s3, bq, iv3, e3⟩ := r_small (k := k) (by omega) iv2
    refine ⟨.tuple [.str "fix", fr p, fr q], s3, ?_, ?_, fun _ => isFix_fix _, iv3, ?_⟩
    · rw [fix_is, fr_fr, fr_fr] <;> rfl
    · refine shp_step sh_fix fun x hx => ?_
      simp only [List.mem_cons, List.not_mem_nil, or_false] at hx
      rcases hx with rfl | rfl <;> exact shp_fr _
    · have a4 : evS (calAt g.pr k) [0] ns4 (T10 (.ow (so s1 b)) (.sh (.tuple ms)) (.sh (.int n)) (.ow (.lst F)) .un (.sh (.int w)) .un .un .un .un) = .ok (.rt (.sh (.tuple [.str "fix", fr p, fr q]))) (T10 (.ow (so s3 b)) (.sh (.tuple ms)) (.sh (.int n)) (.ow (.lst F)) .un (.sh (.int w)) .un .un .un .un) := by
        clear a1 a2 a3 fx
        unfold so T10 at *
        generalize fr p = p' at *
        generalize fr q = q' at *
        by_cases c1 : n = 0
        · replace c1 := eq_true c1
          simp (decide := true) only [ns4, EV, q_lcl, asgM, callM, callR, ioIx, argSls, argSl, ioSl, callE, putOuts, outsOf, goodArgs, ioAt, startS, Ob.val, List.set_cons_zero, List.set_cons_succ, List.length_cons, List.length_nil, Nat.reduceAdd, Nat.reduceSub, Nat.reduceLT, Nat.sub_self, List.replicate_zero, List.replicate_succ, List.cons_append, List.nil_append, List.append_nil, reduceIte, Option.map_some, Option.map_none, List.not_mem_nil, List.nodup_nil, if_true, if_false, Bool.false_eq_true, eq_self, or_self, or_false, false_or, Bool.not_true, Bool.not_false, List.map_cons, List.map_nil, decide_true, decide_false, q_ownL, e2, e3, k_eq, c1, List.nodup_cons]
        · by_cases c2 : w = 0
          · replace c2 := eq_true c2
            simp (decide := true) only [ns4, EV, q_lcl, asgM, callM, callR, ioIx, argSls, argSl, ioSl, callE, putOuts, outsOf, goodArgs, ioAt, startS, Ob.val, List.set_cons_zero, List.set_cons_succ, List.length_cons, List.length_nil, Nat.reduceAdd, Nat.reduceSub, Nat.reduceLT, Nat.sub_self, List.replicate_zero, List.replicate_succ, List.cons_append, List.nil_append, List.append_nil, reduceIte, Option.map_some, Option.map_none, List.not_mem_nil, List.nodup_nil, if_true, if_false, Bool.false_eq_true, eq_self, or_self, or_false, false_or, Bool.not_true, Bool.not_false, List.map_cons, List.map_nil, decide_true, decide_false, q_ownL, e2, e3, k_eq, c1, c2, List.nodup_cons]
          · have c3 : n < 2 := by omega
            have c4 : w < 4 := by omega
            simp (decide := true) only [ns4, EV, q_lcl, asgM, callM, callR, ioIx, argSls, argSl, ioSl, callE, putOuts, outsOf, goodArgs, ioAt, startS, Ob.val, List.set_cons_zero, List.set_cons_succ, List.length_cons, List.length_nil, Nat.reduceAdd, Nat.reduceSub, Nat.reduceLT, Nat.sub_self, List.replicate_zero, List.replicate_succ, List.cons_append, List.nil_append, List.append_nil, reduceIte, Option.map_some, Option.map_none, List.not_mem_nil, List.nodup_nil, if_true, if_false, Bool.false_eq_true, eq_self, or_self, or_false, false_or, Bool.not_true, Bool.not_false, List.map_cons, List.map_nil, decide_true, decide_false, q_ownL, e2, e3, k_eq, k_lt, c1, c2, c3, c4, List.nodup_cons]
      exact run_of rfl ((ss_nx a1).trans <| (ss_nx a2).trans <| (ss_nx a3).trans <| ss_rt a4) rfl
  · have c1 : ¬ n = 0 := by omega
    have c2 : ¬ w = 0 := by omega
    have nz : ms.length = 0 → False := fun z => c1 (by omega)
    have a4 : evS (calAt g.pr k) [0] ns4 (T10 (.ow (so s1 b)) (.sh (.tuple ms)) (.sh (.int n)) (.ow (.lst F)) .un (.sh (.int w)) .un .un .un .un) = .ok .nx (T10 (.ow (so s1 b)) (.sh (.tuple ms)) (.sh (.int n)) (.ow (.lst F)) .un (.sh (.int w)) .un .un .un .un) := by
      clear a1 a2 a3 fx
      unfold so T10 at *
      by_cases c3 : n < 2
      · have c4 : ¬ w < 4 := by omega
        simp (decide := true) only [ns4, EV, q_lcl, asgM, callM, callR, ioIx, argSls, argSl, ioSl, callE, putOuts, outsOf, goodArgs, ioAt, startS, Ob.val, List.set_cons_zero, List.set_cons_succ, List.length_cons, List.length_nil, Nat.reduceAdd, Nat.reduceSub, Nat.reduceLT, Nat.sub_self, List.replicate_zero, List.replicate_succ, List.cons_append, List.nil_append, List.append_nil, reduceIte, Option.map_some, Option.map_none, List.not_mem_nil, List.nodup_nil, if_true, if_false, Bool.false_eq_true, eq_self, or_self, or_false, false_or, Bool.not_true, Bool.not_false, List.map_cons, List.map_nil, decide_true, decide_false, q_ownL, k_eq, k_lt, c1, c2, c3, c4, List.nodup_cons]
      · simp (decide := true) only [ns4, EV, q_lcl, asgM, callM, callR, ioIx, argSls, argSl, ioSl, callE, putOuts, outsOf, goodArgs, ioAt, startS, Ob.val, List.set_cons_zero, List.set_cons_succ, List.length_cons, List.length_nil, Nat.reduceAdd, Nat.reduceSub, Nat.reduceLT, Nat.sub_self, List.replicate_zero, List.replicate_succ, List.cons_append, List.nil_append, List.append_nil, reduceIte, Option.map_some, Option.map_none, List.not_mem_nil, List.nodup_nil, if_true, if_false, Bool.false_eq_true, eq_self, or_self, or_false, false_or, Bool.not_true, Bool.not_false, List.map_cons, List.map_nil, decide_true, decide_false, q_ownL, k_eq, k_lt, c1, c2, c3, List.nodup_cons]
    by_cases cB : n < 2 ∨ w < 3
    · have fl := fl (by omega) (h0 (by omega))
      obtain ⟨r, s2, r0, r1, iv2, e2⟩ := r_take (k := k) (by omega) iv1 (m := (F.length : Int)) (by omega) (by omega)
      obtain ⟨q, s3, q0, bq, iv3, e3⟩ := r_above (k := k) (by omega) iv2
      have ix := ix_of (xs := F) r0 (by omega)
      obtain ⟨i, ei, i0, i1, fi⟩ := fi (F[r.toNat]'(by omega)) (List.getElem_mem _)
      rw [ei] at ix
      have lf : bfD .len [.list F] = some (.sh (.int (F.length : Int))) := rfl
      refine ⟨.tuple [.str "crank", .int i, fr q], s3, ?_, ?_, fun z => (nz z).elim, iv3, ?_⟩
      · rw [crank_is, jt_of i0 (by omega), fi, ab_fr q0] <;> rfl
      · refine shp_step sh_crank fun x hx => ?_
        simp only [List.mem_cons, List.not_mem_nil, or_false] at hx
        rcases hx with rfl | rfl
        · exact (shp_int _).mono (by decide)
        · exact shp_fr _
      · have a5 : evS (calAt g.pr k) [0] ns5 (T10 (.ow (so s1 b)) (.sh (.tuple ms)) (.sh (.int n)) (.ow (.lst F)) .un (.sh (.int w)) .un .un .un .un) = .ok (.rt (.sh (.tuple [.str "crank", .int i, fr q]))) (T10 (.ow (so s3 b)) (.sh (.tuple ms)) (.sh (.int n)) (.ow (.lst F)) .un (.sh (.int w)) .un .un .un .un) := by
          clear a1 a2 a3 a4 fx
          unfold so T10 at *
          generalize fr q = q' at *
          by_cases c3 : n < 2
          · simp (decide := true) only [ns5, EV, q_lcl, asgM, callM, callR, ioIx, argSls, argSl, ioSl, callE, putOuts, outsOf, goodArgs, ioAt, startS, Ob.val, List.set_cons_zero, List.set_cons_succ, List.length_cons, List.length_nil, Nat.reduceAdd, Nat.reduceSub, Nat.reduceLT, Nat.sub_self, List.replicate_zero, List.replicate_succ, List.cons_append, List.nil_append, List.append_nil, reduceIte, Option.map_some, Option.map_none, List.not_mem_nil, List.nodup_nil, if_true, if_false, Bool.false_eq_true, eq_self, or_self, or_false, false_or, Bool.not_true, Bool.not_false, List.map_cons, List.map_nil, decide_true, decide_false, q_ownL, lf, e2, e3, ix, k_eq, k_lt, c3, List.nodup_cons]
          · have c4 : w < 3 := by omega
            simp (decide := true) only [ns5, EV, q_lcl, asgM, callM, callR, ioIx, argSls, argSl, ioSl, callE, putOuts, outsOf, goodArgs, ioAt, startS, Ob.val, List.set_cons_zero, List.set_cons_succ, List.length_cons, List.length_nil, Nat.reduceAdd, Nat.reduceSub, Nat.reduceLT, Nat.sub_self, List.replicate_zero, List.replicate_succ, List.cons_append, List.nil_append, List.append_nil, reduceIte, Option.map_some, Option.map_none, List.not_mem_nil, List.nodup_nil, if_true, if_false, Bool.false_eq_true, eq_self, or_self, or_false, false_or, Bool.not_true, Bool.not_false, List.map_cons, List.map_nil, decide_true, decide_false, q_ownL, lf, e2, e3, ix, k_eq, k_lt, c3, c4, List.nodup_cons]
        exact run_of rfl ((ss_nx a1).trans <| (ss_nx a2).trans <| (ss_nx a3).trans <| (ss_nx a4).trans <| ss_rt a5) rfl
    · have c3 : ¬ n < 2 := by omega
      have c4 : ¬ w < 3 := by omega
      have a5 : evS (calAt g.pr k) [0] ns5 (T10 (.ow (so s1 b)) (.sh (.tuple ms)) (.sh (.int n)) (.ow (.lst F)) .un (.sh (.int w)) .un .un .un .un) = .ok .nx (T10 (.ow (so s1 b)) (.sh (.tuple ms)) (.sh (.int n)) (.ow (.lst F)) .un (.sh (.int w)) .un .un .un .un) := by
        clear a1 a2 a3 a4 fx
        unfold so T10 at *
        simp (decide := true) only [ns5, EV, q_lcl, asgM, callM, callR, ioIx, argSls, argSl, ioSl, callE, putOuts, outsOf, goodArgs, ioAt, startS, Ob.val, List.set_cons_zero, List.set_cons_succ, List.length_cons, List.length_nil, Nat.reduceAdd, Nat.reduceSub, Nat.reduceLT, Nat.sub_self, List.replicate_zero, List.replicate_succ, List.cons_append, List.nil_append, List.append_nil, reduceIte, Option.map_some, Option.map_none, List.not_mem_nil, List.nodup_nil, if_true, if_false, Bool.false_eq_true, eq_self, or_self, or_false, false_or, Bool.not_true, Bool.not_false, List.map_cons, List.map_nil, decide_true, decide_false, q_ownL, k_lt, c3, c4, List.nodup_cons]
      obtain ⟨i, j, s2, i0, i1, j0, j1, ij, iv2, e2⟩ := r_two (k := k) (by omega) iv1 (m := n) (by omega) (by omega)
      have a6 : evS (calAt g.pr k) [0] ns6 (T10 (.ow (so s1 b)) (.sh (.tuple ms)) (.sh (.int n)) (.ow (.lst F)) .un (.sh (.int w)) .un .un .un .un) = .ok .nx (T10 (.ow (so s2 b)) (.sh (.tuple ms)) (.sh (.int n)) (.ow (.lst F)) .un (.sh (.int w)) (.sh (.int j)) (.sh (.int i)) .un .un) := by
        clear a1 a2 a3 a4 a5 fx
        unfold so T10 at *
        simp (decide := true) only [ns6, EV, q_lcl, asgM, callM, callR, ioIx, argSls, argSl, ioSl, callE, putOuts, outsOf, goodArgs, ioAt, startS, Ob.val, List.set_cons_zero, List.set_cons_succ, List.length_cons, List.length_nil, Nat.reduceAdd, Nat.reduceSub, Nat.reduceLT, Nat.sub_self, List.replicate_zero, List.replicate_succ, List.cons_append, List.nil_append, List.append_nil, reduceIte, Option.map_some, Option.map_none, List.not_mem_nil, List.nodup_nil, if_true, if_false, Bool.false_eq_true, eq_self, or_self, or_false, false_or, Bool.not_true, Bool.not_false, List.map_cons, List.map_nil, decide_true, decide_false, q_ownL, q_pt, q_pt2, e2, List.nodup_cons]
      by_cases c6 : w < 6
      · obtain ⟨p, s3, p0, iv3, t1⟩ := r_square (k := k) (by omega) iv2 (.sh (.tuple ms)) (.sh (.int n)) (.ow (.lst F)) .un (.sh (.int w)) (.sh (.int j)) (.sh (.int i)) .un .un 0
        obtain ⟨q, s4, q0, iv4, t2⟩ := r_square (k := k) (by omega) iv3 (.sh (.tuple ms)) (.sh (.int n)) (.ow (.lst F)) .un (.sh (.int w)) (.sh (.int j)) (.sh (.int i)) .un .un 1
        obtain ⟨e, s5, z0, z1, iv5, e5⟩ := r_take (k := k) (by omega) iv4 (m := 2) (by decide) (by decide)
        have sr : evSrc (calAt g.pr k) (.rng (.cons (.int 2) .nil)) (T10 (.ow (so s2 b)) (.sh (.tuple ms)) (.sh (.int n)) (.ow (.lst F)) .un (.sh (.int w)) (.sh (.int j)) (.sh (.int i)) .un .un) = .ok [.int 0, .int 1] (T10 (.ow (so s2 b)) (.sh (.tuple ms)) (.sh (.int n)) (.ow (.lst F)) .un (.sh (.int w)) (.sh (.int j)) (.sh (.int i)) .un .un) := src_rng1 rfl rng_2
        have lc : evE (calAt g.pr k) c1__law_next_step (T10 (.ow (so s2 b)) (.sh (.tuple ms)) (.sh (.int n)) (.ow (.lst F)) .un (.sh (.int w)) (.sh (.int j)) (.sh (.int i)) .un .un) = .ok (.ow (.lst [fr p, fr q])) (T10 (.ow (so s4 b)) (.sh (.tuple ms)) (.sh (.int n)) (.ow (.lst F)) .un (.sh (.int w)) (.sh (.int j)) (.sh (.int i)) .un .un) := by
          have gg : lcGo [9] (lcT (calAt g.pr k) (.name 9) (.bl true) (.call 15 (.cons (.call 18 (.cons (.var 0) .nil)) (.cons (.tup (.cons (.bin .Add (.int 1) (.call 10 (.cons (.var 0) (.cons (.int 9) .nil)))) (.cons (.int 1) .nil))) .nil)))) [.int 0, .int 1] (wipeS (T10 (.ow (so s2 b)) (.sh (.tuple ms)) (.sh (.int n)) (.ow (.lst F)) .un (.sh (.int w)) (.sh (.int j)) (.sh (.int i)) .un .un) [9]) = .ok [fr p, fr q] (wipeS (T10 (.ow (so s4 b)) (.sh (.tuple ms)) (.sh (.int n)) (.ow (.lst F)) .un (.sh (.int w)) (.sh (.int j)) (.sh (.int i)) .un (.sh (.int 1))) [9]) := lcGo_s t1 (lcGo_s t2 lcGo_n)
          exact lc_run sr (show 2 < sizeLine by decide) rfl gg
        have y0 : ∀ a b : D, ixD (.list [a, b]) (.int 0) = some a := fun _ _ => rfl
        have y1 : ∀ a b : D, ixD (.list [a, b]) (.int 1) = some b := fun _ _ => rfl
        refine ⟨.tuple [.str "pair", .int i, .int j, fr p, fr q, .int e], s5, ?_, ?_, fun z => (nz z).elim, iv5, ?_⟩
        · rw [pair_is, jt_of i0 (by omega), jt_of j0 (by omega), un_of ij, ab_fr p0, ab_fr q0, sd_of z0 z1] <;> rfl
        · refine shp_step sh_pair fun x hx => ?_
          simp only [List.mem_cons, List.not_mem_nil, or_false] at hx
          rcases hx with rfl | rfl | rfl | rfl | rfl
          · exact (shp_int _).mono (by decide)
          · exact (shp_int _).mono (by decide)
          · exact shp_fr _
          · exact shp_fr _
          · exact (shp_int _).mono (by decide)
        · have a7 : evS (calAt g.pr k) [0] ns7 (T10 (.ow (so s2 b)) (.sh (.tuple ms)) (.sh (.int n)) (.ow (.lst F)) .un (.sh (.int w)) (.sh (.int j)) (.sh (.int i)) .un .un) = .ok (.rt (.sh (.tuple [.str "pair", .int i, .int j, fr p, fr q, .int e]))) (T10 (.ow (so s5 b)) (.sh (.tuple ms)) (.sh (.int n)) (.ow (.lst F)) .un (.sh (.int w)) (.sh (.int j)) (.sh (.int i)) (.ow (.lst [fr p, fr q])) .un) := by
            have b1 : evS (calAt g.pr k) [0] (.asg (.name 8) c1__law_next_step) (T10 (.ow (so s2 b)) (.sh (.tuple ms)) (.sh (.int n)) (.ow (.lst F)) .un (.sh (.int w)) (.sh (.int j)) (.sh (.int i)) .un .un) = .ok .nx (T10 (.ow (so s4 b)) (.sh (.tuple ms)) (.sh (.int n)) (.ow (.lst F)) .un (.sh (.int w)) (.sh (.int j)) (.sh (.int i)) (.ow (.lst [fr p, fr q])) .un) := by
              show ((evE (calAt g.pr k) c1__law_next_step (T10 (.ow (so s2 b)) (.sh (.tuple ms)) (.sh (.int n)) (.ow (.lst F)) .un (.sh (.int w)) (.sh (.int j)) (.sh (.int i)) .un .un)).bind fun r => nx (setS 8 r)) = _
              rw [lc]
              rfl
            have b2 : evS (calAt g.pr k) [0] (.ret (.tup (.cons (.str "pair") (.cons (.var 7) (.cons (.var 6) (.cons (.ix (.var 8) (.int 0)) (.cons (.ix (.var 8) (.int 1)) (.cons (.call 10 (.cons (.var 0) (.cons (.int 2) .nil))) .nil)))))))) (T10 (.ow (so s4 b)) (.sh (.tuple ms)) (.sh (.int n)) (.ow (.lst F)) .un (.sh (.int w)) (.sh (.int j)) (.sh (.int i)) (.ow (.lst [fr p, fr q])) .un) = .ok (.rt (.sh (.tuple [.str "pair", .int i, .int j, fr p, fr q, .int e]))) (T10 (.ow (so s5 b)) (.sh (.tuple ms)) (.sh (.int n)) (.ow (.lst F)) .un (.sh (.int w)) (.sh (.int j)) (.sh (.int i)) (.ow (.lst [fr p, fr q])) .un) := by
              clear a1 a2 a3 a4 a5 a6 fx b1 lc sr t1 t2
              unfold so T10 at *
              generalize fr p = p' at *
              generalize fr q = q' at *
              simp (decide := true) only [EV, q_lcl, asgM, callM, callR, ioIx, argSls, argSl, ioSl, callE, putOuts, outsOf, goodArgs, ioAt, startS, Ob.val, List.set_cons_zero, List.set_cons_succ, List.length_cons, List.length_nil, Nat.reduceAdd, Nat.reduceSub, Nat.reduceLT, Nat.sub_self, List.replicate_zero, List.replicate_succ, List.cons_append, List.nil_append, List.append_nil, reduceIte, Option.map_some, Option.map_none, List.not_mem_nil, List.nodup_nil, if_true, if_false, Bool.false_eq_true, eq_self, or_self, or_false, false_or, Bool.not_true, Bool.not_false, List.map_cons, List.map_nil, decide_true, decide_false, q_ownL, e5, y0, y1, List.nodup_cons]
            have cc : testM (evE (calAt g.pr k) (.cmp .Lt (.var 5) (.int 6))) (T10 (.ow (so s2 b)) (.sh (.tuple ms)) (.sh (.int n)) (.ow (.lst F)) .un (.sh (.int w)) (.sh (.int j)) (.sh (.int i)) .un .un) = .ok true (T10 (.ow (so s2 b)) (.sh (.tuple ms)) (.sh (.int n)) (.ow (.lst F)) .un (.sh (.int w)) (.sh (.int j)) (.sh (.int i)) .un .un) := by
              clear a1 a2 a3 a4 a5 a6 fx b1 b2 lc sr t1 t2
              simp (decide := true) only [T10, EV, q_lcl, asgM, callM, callR, ioIx, argSls, argSl, ioSl, callE, putOuts, outsOf, goodArgs, ioAt, startS, Ob.val, List.set_cons_zero, List.set_cons_succ, List.length_cons, List.length_nil, Nat.reduceAdd, Nat.reduceSub, Nat.reduceLT, Nat.sub_self, List.replicate_zero, List.replicate_succ, List.cons_append, List.nil_append, List.append_nil, reduceIte, Option.map_some, Option.map_none, List.not_mem_nil, List.nodup_nil, if_true, if_false, Bool.false_eq_true, eq_self, or_self, or_false, false_or, Bool.not_true, Bool.not_false, List.map_cons, List.map_nil, decide_true, decide_false, k_lt, c6]
            exact ite_t cc ((ss_nx b1).trans (ss_rt b2))
          exact run_of rfl ((ss_nx a1).trans <| (ss_nx a2).trans <| (ss_nx a3).trans <| (ss_nx a4).trans <| (ss_nx a5).trans <| (ss_nx a6).trans <| ss_rt a7) rfl
      · obtain ⟨p, s3, bp, iv3, e3⟩ := r_small (k := k) (by omega) iv2
        obtain ⟨q, s4, bq, iv4, e4⟩ := r_small (k := k) (by omega) iv3
        refine ⟨.tuple [.str "like", .int i, .int j, fr p, fr q], s4, ?_, ?_, fun z => (nz z).elim, iv4, ?_⟩
        · rw [like_is, jt_of i0 (by omega), jt_of j0 (by omega), un_of ij, fr_fr, fr_fr] <;> rfl
        · refine shp_step sh_like fun x hx => ?_
          simp only [List.mem_cons, List.not_mem_nil, or_false] at hx
          rcases hx with rfl | rfl | rfl | rfl
          · exact (shp_int _).mono (by decide)
          · exact (shp_int _).mono (by decide)
          · exact shp_fr _
          · exact shp_fr _
        · have cc : testM (evE (calAt g.pr k) (.cmp .Lt (.var 5) (.int 6))) (T10 (.ow (so s2 b)) (.sh (.tuple ms)) (.sh (.int n)) (.ow (.lst F)) .un (.sh (.int w)) (.sh (.int j)) (.sh (.int i)) .un .un) = .ok false (T10 (.ow (so s2 b)) (.sh (.tuple ms)) (.sh (.int n)) (.ow (.lst F)) .un (.sh (.int w)) (.sh (.int j)) (.sh (.int i)) .un .un) := by
            clear a1 a2 a3 a4 a5 a6 fx
            simp (decide := true) only [T10, EV, q_lcl, asgM, callM, callR, ioIx, argSls, argSl, ioSl, callE, putOuts, outsOf, goodArgs, ioAt, startS, Ob.val, List.set_cons_zero, List.set_cons_succ, List.length_cons, List.length_nil, Nat.reduceAdd, Nat.reduceSub, Nat.reduceLT, Nat.sub_self, List.replicate_zero, List.replicate_succ, List.cons_append, List.nil_append, List.append_nil, reduceIte, Option.map_some, Option.map_none, List.not_mem_nil, List.nodup_nil, if_true, if_false, Bool.false_eq_true, eq_self, or_self, or_false, false_or, Bool.not_true, Bool.not_false, List.map_cons, List.map_nil, decide_true, decide_false, k_lt, c6]
          have a7 : evS (calAt g.pr k) [0] ns7 (T10 (.ow (so s2 b)) (.sh (.tuple ms)) (.sh (.int n)) (.ow (.lst F)) .un (.sh (.int w)) (.sh (.int j)) (.sh (.int i)) .un .un) = .ok .nx (T10 (.ow (so s2 b)) (.sh (.tuple ms)) (.sh (.int n)) (.ow (.lst F)) .un (.sh (.int w)) (.sh (.int j)) (.sh (.int i)) .un .un) := ite_f cc
          have a8 : evS (calAt g.pr k) [0] ns8 (T10 (.ow (so s2 b)) (.sh (.tuple ms)) (.sh (.int n)) (.ow (.lst F)) .un (.sh (.int w)) (.sh (.int j)) (.sh (.int i)) .un .un) = .ok (.rt (.sh (.tuple [.str "like", .int i, .int j, fr p, fr q]))) (T10 (.ow (so s4 b)) (.sh (.tuple ms)) (.sh (.int n)) (.ow (.lst F)) .un (.sh (.int w)) (.sh (.int j)) (.sh (.int i)) .un .un) := by
            clear a1 a2 a3 a4 a5 a6 a7 fx
            unfold so T10 at *
            generalize fr p = p' at *
            generalize fr q = q' at *
            simp (decide := true) only [ns8, EV, q_lcl, asgM, callM, callR, ioIx, argSls, argSl, ioSl, callE, putOuts, outsOf, goodArgs, ioAt, startS, Ob.val, List.set_cons_zero, List.set_cons_succ, List.length_cons, List.length_nil, Nat.reduceAdd, Nat.reduceSub, Nat.reduceLT, Nat.sub_self, List.replicate_zero, List.replicate_succ, List.cons_append, List.nil_append, List.append_nil, reduceIte, Option.map_some, Option.map_none, List.not_mem_nil, List.nodup_nil, if_true, if_false, Bool.false_eq_true, eq_self, or_self, or_false, false_or, Bool.not_true, Bool.not_false, List.map_cons, List.map_nil, decide_true, decide_false, q_ownL, e3, e4, List.nodup_cons]
          exact run_of rfl ((ss_nx a1).trans <| (ss_nx a2).trans <| (ss_nx a3).trans <| (ss_nx a4).trans <| (ss_nx a5).trans <| (ss_nx a6).trans <| (ss_nx a7).trans <| ss_rt a8) rfl
end Lw
set_option Elab.async false
set_option linter.all false
set_option maxRecDepth 100000
set_option maxHeartbeats 400000
/-! Law k41: machines drawn and bent. -/
namespace Lw
open PySem Hg
abbrev bs1 : Hg.St := (.asg (.name 3) (.call 10 (.cons (.var 0) (.cons (.bf .len (.cons (.var 1) .nil)) .nil))))
abbrev bs2 : Hg.St := (.asg (.name 4) (.lst (.cons (.var 2) (.cons (.bin .Add (.var 2) (.int 1)) (.cons (.neg (.int 1)) (.cons (.int 0) (.cons (.int 1) (.cons (.int 2) (.cons (.bl true) (.cons (.bl false) (.cons (.non) (.cons (.str "fix") (.cons (.str "like") (.cons (.tup (.cons (.int 0) (.cons (.int 1) .nil))) (.cons (.tup (.cons (.neg (.int 1)) (.cons (.int 2) .nil))) (.cons (.tup (.cons (.int 2) (.cons (.int 4) .nil))) (.cons (.tup (.cons (.int 1) (.cons (.int 0) .nil))) (.cons (.lst (.cons (.int 1) (.cons (.int 2) .nil))) .nil))))))))))))))))))
abbrev bs3 : Hg.St := (.asg (.name 4) (.bin .Add (.var 4) (.lst (.cons (.tup (.cons (.bl true) (.cons (.int 1) .nil))) (.cons (.str "pair") (.cons (.tup (.cons (.int 3) (.cons (.int 1) .nil))) (.cons (.tup (.cons (.int 1) (.cons (.int 2) (.cons (.int 3) .nil)))) (.cons (.str "Fix") (.cons (.tup (.nil)) .nil)))))))))
abbrev bs4 : Hg.St := (.asg (.name 5) (.lst (.cons (.bf .list (.cons (.var 1) .nil)) (.cons (.bin .Add (.var 1) (.tup (.cons (.int 0) .nil))) (.cons (.sl (.var 1) (.non) (.neg (.int 1))) (.cons (.sl (.var 1) (.int 1) (.non)) (.cons (.non) (.cons (.dic (.nil) (.nil)) (.cons (.tup (.nil)) (.cons (.ix (.var 1) (.int 0)) (.cons (.tup (.cons (.str "crank") (.cons (.bin .Sub (.var 2) (.int 1)) (.cons (.tup (.cons (.int 1) (.cons (.int 1) .nil))) .nil)))) .nil)))))))))))
abbrev bs5 : Hg.St := (.ite (.cmp .Eq (.call 10 (.cons (.var 0) (.cons (.int 4) .nil))) (.int 0)) (.cons (.ret (.ix (.var 5) (.call 10 (.cons (.var 0) (.cons (.int 9) .nil))))) .nil) (.nil))
abbrev bs6 : Hg.St := (.ret (.bin .Add (.bin .Add (.sl (.var 1) (.non) (.var 3)) (.tup (.cons (.ix (.var 4) (.call 10 (.cons (.var 0) (.cons (.int 22) .nil)))) .nil))) (.sl (.var 1) (.bin .Add (.var 3) (.int 1)) (.non))))
abbrev bt1 : Hg.St := (.asg (.name 2) (.call 10 (.cons (.var 0) (.cons (.bf .len (.cons (.var 1) .nil)) .nil))))
abbrev bt2 : Hg.St := (.asg (.name 3) (.call 10 (.cons (.var 0) (.cons (.int 12) .nil))))
abbrev bt3 : Hg.St := (.ite (.cmp .Eq (.var 3) (.int 0)) (.cons (.ret (.ix (.lst (.cons (.bf .list (.cons (.var 1) .nil)) (.cons (.tup (.nil)) (.cons (.non) (.cons (.int 7) (.cons (.bl true) (.cons (.str "fix") (.cons (.dic (.nil) (.nil)) (.cons (.tup (.cons (.var 1) .nil)) (.cons (.ix (.var 1) (.var 2)) .nil)))))))))) (.call 10 (.cons (.var 0) (.cons (.int 9) .nil))))) .nil) (.nil))
abbrev bt4 : Hg.St := (.ite (.cmp .Eq (.var 3) (.int 1)) (.cons (.ret (.sl (.bin .Mult (.var 1) (.int 8)) (.non) (.bin .Add (.int 7) (.call 10 (.cons (.var 0) (.cons (.int 2) .nil)))))) .nil) (.nil))
abbrev bt5 : Hg.St := (.ite (.cmp .Eq (.var 3) (.int 2)) (.cons (.ret (.bin .Add (.sl (.var 1) (.int 1) (.non)) (.sl (.var 1) (.non) (.int 1)))) .nil) (.nil))
abbrev bt6 : Hg.St := (.ret (.bin .Add (.bin .Add (.sl (.var 1) (.non) (.var 2)) (.tup (.cons (.call 23 (.cons (.var 0) (.cons (.ix (.var 1) (.var 2)) (.cons (.var 2) .nil)))) .nil))) (.sl (.var 1) (.bin .Add (.var 2) (.int 1)) (.non))))

/-- a drawn machine -/
def MS (ms : List D) : Prop := Ah ms ∧ goD [] ms = true ∧ (∀ x ∈ ms, Shp 3 x) ∧ (0 < ms.length → fixAt ms (.int 0) = true)
theorem go_snoc : ∀ (r ah : List D) (d : D), goD ah (r ++ [d]) = (goD ah r && stD (ah ++ r) d)
  | [], ah, d => by
    show (stD ah d && true) = (true && stD (ah ++ []) d)
    rw [List.append_nil, Bool.and_true, Bool.true_and]
  | x :: r, ah, d => by
    show (stD ah x && goD (ah ++ [x]) (r ++ [d])) = ((stD ah x && goD (ah ++ [x]) r) && stD (ah ++ x :: r) d)
    rw [go_snoc r (ah ++ [x]) d, Bool.and_assoc, List.append_assoc]
    rfl
theorem ms_snoc {ms : List D} {d : D} (h : MS ms) (hs : stD ms d = true) (hp : Shp 3 d) (hf : ms.length = 0 → isFix d = true) : MS (ms ++ [d]) := by
  refine ⟨ah_snoc h.1 hs (sp_of hp (by decide)), ?_, fun x hx => ?_, fun _ => ?_⟩
  · rw [go_snoc, h.2.1, List.nil_append, hs] <;> rfl
  · rcases List.mem_append.mp hx with hx | hx
    · exact h.2.2.1 x hx
    · rw [List.mem_singleton.mp hx]
      exact hp
  · cases ms with
    | nil => exact hf rfl
    | cons x r => exact h.2.2.2 (by rw [List.length_cons]; omega)
theorem ms_nil : MS [] := ⟨fun _ h => (nomatch h), rfl, fun _ h => (nomatch h), fun h => absurd h (Nat.lt_irrefl 0)⟩
theorem add_t {xs ys : List D} (h : xs.length + ys.length ≤ 1000) : binD .Add (.tuple xs) (.tuple ys) = some (.sh (.tuple (xs ++ ys))) := if_pos (Nat.le_trans h (by decide))
theorem mk_go {k : Nat} (h : 7 ≤ k) {b : Bool} : ∀ (n a : Nat) (ms : List D) (s : Int) (y : Sl), MS ms → ms.length + n ≤ 7 → Iv s b → ∃ (ms' : List D) (s' : Int) (y' : Sl), MS ms' ∧ ms'.length = ms.length + n ∧ Iv s' b ∧
    foGo (fun d => (putT (.name 2) d).bind fun _ => evSs (calAt g.pr k) [0] b1__law_machine) ((List.range' a n).map fun (i : Nat) => .int (i : Int)) [.ow (so s b), .sh (.tuple ms), y] = .ok .nx [.ow (so s' b), .sh (.tuple ms'), y']
  | 0, a, ms, s, y, hm, _, iv => ⟨ms, s, y, hm, rfl, iv, rfl⟩
  | n + 1, a, ms, s, y, hm, hl, iv => by
    obtain ⟨d, s1, d1, d2, d3, iv1, e1⟩ := r_next (k := k) (by omega) iv hm.1 (by omega) hm.2.2.2
    have ad := add_t (xs := ms) (ys := [d]) (by rw [List.length_singleton]; omega)
    have t : ((putT (.name 2) (.int (a : Int))).bind fun _ => evSs (calAt g.pr k) [0] b1__law_machine) [.ow (so s b), .sh (.tuple ms), y] = .ok .nx [.ow (so s1 b), .sh (.tuple (ms ++ [d])), .sh (.int (a : Int))] := by
      unfold so at *
      simp (decide := true) only [b1__law_machine, EV, q_lcl, asgM, callM, callR, ioIx, argSls, argSl, ioSl, callE, putOuts, outsOf, goodArgs, ioAt, startS, Ob.val, List.set_cons_zero, List.set_cons_succ, List.length_cons, List.length_nil, Nat.reduceAdd, Nat.reduceSub, Nat.reduceLT, Nat.sub_self, List.replicate_zero, List.replicate_succ, List.cons_append, List.nil_append, List.append_nil, reduceIte, Option.map_some, Option.map_none, List.not_mem_nil, List.nodup_nil, if_true, if_false, Bool.false_eq_true, eq_self, or_self, or_false, false_or, Bool.not_true, Bool.not_false, List.map_cons, List.map_nil, decide_true, decide_false, q_ownL, q_pt, e1, ad, List.nodup_cons]
    have l : (ms ++ [d]).length = ms.length + 1 := by rw [List.length_append]; rfl
    obtain ⟨ms', s', y', m1, m2, iv2, e2⟩ := mk_go h n (a + 1) (ms ++ [d]) s1 (.sh (.int (a : Int))) (ms_snoc hm d1 d2 d3) (by omega) iv1
    refine ⟨ms', s', y', m1, by omega, iv2, ?_⟩
    show foGo _ (PyData.int (a : Int) :: (List.range' (a + 1) n).map fun (i : Nat) => .int (i : Int)) _ = _
    rw [foGo_t t]
    exact e2
theorem r_make {k : Nat} (h : 8 ≤ k) {s : Int} {b : Bool} (iv : Iv s b) : ∃ (ms : List D) (s' : Int), MS ms ∧ 1 ≤ ms.length ∧ ms.length ≤ 7 ∧ Iv s' b ∧ (calAt g.pr k).run i__law_machine [.ow (so s b)] = .ok (.sh (.tuple ms)) [so s' b] := by
  obtain ⟨k, rfl⟩ := Nat.exists_eq_add_of_le' (show 1 ≤ k by omega)
  rw [rr k (t := ⟨f__law_machine, _, _, _⟩) rfl]
  obtain ⟨n, s1, n0, n7, iv1, e1⟩ := r_take (k := k) (by omega) iv (m := 7) (by decide) (by decide)
  obtain ⟨ms, s2, y, m1, m2, iv2, e2⟩ := mk_go (k := k) (by omega) (b := b) (1 + n).toNat 0 [] s1 .un ms_nil (by rw [List.length_nil]; omega) iv1
  rw [List.length_nil] at m2
  have en : (((1 + n).toNat : Nat) : Int) = 1 + n := by omega
  have sr : evSrc (calAt g.pr k) (.rng (.cons (.bin .Add (.int 1) (.call 10 (.cons (.var 0) (.cons (.int 7) .nil)))) .nil)) [.ow (so s b), .sh (.tuple []), .un] = .ok ((List.range' 0 (1 + n).toNat).map fun (i : Nat) => PyData.int (i : Int)) [.ow (so s1 b), .sh (.tuple []), .un] := by
    rw [← List.range_eq_range']
    refine src_rng1 (i := (((1 + n).toNat : Nat) : Int)) ?_ (rng_1 (by omega))
    rw [en]
    unfold so at *
    simp (decide := true) only [EV, q_lcl, asgM, callM, callR, ioIx, argSls, argSl, ioSl, callE, putOuts, outsOf, goodArgs, ioAt, startS, Ob.val, List.set_cons_zero, List.set_cons_succ, List.length_cons, List.length_nil, Nat.reduceAdd, Nat.reduceSub, Nat.reduceLT, Nat.sub_self, List.replicate_zero, List.replicate_succ, List.cons_append, List.nil_append, List.append_nil, reduceIte, Option.map_some, Option.map_none, List.not_mem_nil, List.nodup_nil, if_true, if_false, Bool.false_eq_true, eq_self, or_self, or_false, false_or, Bool.not_true, Bool.not_false, List.map_cons, List.map_nil, decide_true, decide_false, q_ownL, e1, List.nodup_cons]
  have lp : evS (calAt g.pr k) [0] l0__law_machine [.ow (so s b), .sh (.tuple []), .un] = .ok .nx [.ow (so s2 b), .sh (.tuple ms), y] := fo_of rfl sr e2
  refine ⟨ms, s2, m1, by omega, by omega, iv2, ?_⟩
  have a1 : evS (calAt g.pr k) [0] (.asg (.name 1) (.tup (.nil))) [.ow (so s b), .un, .un] = .ok .nx [.ow (so s b), .sh (.tuple []), .un] := rfl
  have a3 : evS (calAt g.pr k) [0] (.ret (.var 1)) [.ow (so s2 b), .sh (.tuple ms), y] = .ok (.rt (.sh (.tuple ms))) [.ow (so s2 b), .sh (.tuple ms), y] := rfl
  exact run_of rfl ((ss_nx a1).trans <| (ss_nx lp).trans <| ss_rt a3) rfl
/-! ### bent things -/
theorem p_binA {op : Operator} {a b : Ex} {m : M Sl} {s : S} : partM (.bin op a b) m s = (frz m s).bind fun d s1 => (match d with
  | .int i => R.ok (some i) s1
  | _ => .bad) := by
  show ((frz m).bind _) s = _
  unfold M.bind
  congr 1
  funext d s1
  cases d <;> rfl
theorem dic0 : dicD [] [] = some (.ow (.dic [])) := rfl
theorem p_negM {e : Ex} {m : M Sl} {s : S} : partM (.neg e) m s = (frz m s).bind fun d s1 => (match d with
  | .int i => R.ok (some i) s1
  | _ => .bad) := by
  show ((frz m).bind _) s = _
  unfold M.bind
  congr 1
  funext d s1
  cases d <;> rfl
theorem sl_t {xs : List D} {lo hi : Option Int} : slD (.tuple xs) lo hi = some (.sh (.tuple (cutD xs lo hi))) := rfl
theorem cut_sub {xs : List D} {lo hi : Option Int} {x : D} (h : x ∈ cutD xs lo hi) : x ∈ xs := List.mem_of_mem_drop (List.mem_of_mem_take h)
theorem cut_len {xs : List D} {lo hi : Option Int} : (cutD xs lo hi).length ≤ xs.length := by
  unfold cutD
  rw [List.length_take, List.length_drop]
  omega
theorem pick {L : List D} {P : D → Prop} (hP : ∀ x ∈ L, P x) {r : Int} (h0 : 0 ≤ r) (h1 : r < (L.length : Int)) : ∃ d, ixD (.list L) (.int r) = some d ∧ P d := ⟨_, ix_of h0 (by omega), hP _ (List.getElem_mem _)⟩
theorem pickT {L : List D} {P : D → Prop} (hP : ∀ x ∈ L, P x) {r : Int} (h0 : 0 ≤ r) (h1 : r < (L.length : Int)) : ∃ d, ixD (.tuple L) (.int r) = some d ∧ P d := by
  have hl : r.toNat < L.length := by omega
  have z := L2.atI_nat (xs := L) (j := r.toNat) (v := L[r.toNat]) (List.getElem?_eq_getElem hl)
  have e : ((r.toNat : Nat) : Int) = r := by omega
  rw [e] at z
  exact ⟨_, z, hP _ (List.getElem_mem _)⟩
def Bd (d : D) : Prop := Shp 12 d ∨ d = .dict []
theorem bd_sp {d : D} (h : Bd d) : Sp d := fun ys e => by
  rcases h with h | h
  · exact shp_sh h (by decide)
  · rw [h] at e
    cases e
theorem bd {n : Nat} {d : D} (h : Shp n d) (l : n ≤ 12) : Bd d := .inl (h.mono l)
theorem all_nil {P : D → Prop} : ∀ x ∈ ([] : List D), P x := fun _ h => (nomatch h)
theorem all_cons {P : D → Prop} {d : D} {L : List D} (h : P d) (hL : ∀ x ∈ L, P x) : ∀ x ∈ d :: L, P x := fun x hx => by
  rcases List.mem_cons.mp hx with rfl | hx
  · exact h
  · exact hL x hx
theorem all_app {P : D → Prop} {L M : List D} (hL : ∀ x ∈ L, P x) (hM : ∀ x ∈ M, P x) : ∀ x ∈ L ++ M, P x := fun x hx => by
  rcases List.mem_append.mp hx with hx | hx
  · exact hL x hx
  · exact hM x hx
theorem all_mono {n m : Nat} {L : List D} (h : ∀ x ∈ L, Shp n x) (l : n ≤ m) : ∀ x ∈ L, Shp m x := fun x hx => (h x hx).mono l
theorem all_cut {P : D → Prop} {L : List D} {lo hi : Option Int} (h : ∀ x ∈ L, P x) : ∀ x ∈ cutD L lo hi, P x := fun x hx => h x (cut_sub hx)
theorem sh_Fix : SeqAt.shaped (.str "Fix") = true := by kernel_rfl
theorem p_neg1 {m : M Sl} {s : S} : partM (.neg (.int 1)) (evE (calAt g.pr 0) (.neg (.int 1))) s = .ok (some (-1)) s := rfl
def odds (n : Int) : List D := [.int n, .int (n + 1), .int (-1), .int 0, .int 1, .int 2, .bool true, .bool false, .none, .str "fix", .str "like", .tuple [.int 0, .int 1], .tuple [.int (-1), .int 2], .tuple [.int 2, .int 4], .tuple [.int 1, .int 0], .list [.int 1, .int 2], .tuple [.bool true, .int 1], .str "pair", .tuple [.int 3, .int 1], .tuple [.int 1, .int 2, .int 3], .str "Fix", .tuple []]
theorem odds_bd (n : Int) : ∀ x ∈ odds n, Shp 2 x := by
  have i : ∀ j : Int, Shp 1 (.int j) := shp_int
  have i2 : ∀ j : Int, Shp 2 (.int j) := fun j => (shp_int j).mono (by decide)
  have s : ∀ x : Str, SeqAt.shaped (.str x) = true → Shp 2 (.str x) := fun x h => (shp_str h).mono (by decide)
  have t2 : ∀ a b : Int, Shp 2 (.tuple [.int a, .int b]) := fun a b => shp_tup (all_cons (i a) (all_cons (i b) all_nil))
  unfold odds
  exact all_cons (i2 _) <| all_cons (i2 _) <| all_cons (i2 _) <| all_cons (i2 _) <| all_cons (i2 _) <| all_cons (i2 _) <| all_cons ((shp_bool _).mono (by decide)) <| all_cons ((shp_bool _).mono (by decide)) <| all_cons (shp_non.mono (by decide)) <| all_cons (s _ sh_fix) <| all_cons (s _ sh_like) <| all_cons (t2 _ _) <| all_cons (t2 _ _) <| all_cons (t2 _ _) <| all_cons (t2 _ _) <| all_cons (shp_list (all_cons (i _) (all_cons (i _) all_nil))) <| all_cons (shp_tup (all_cons (shp_bool _) (all_cons (i _) all_nil))) <| all_cons (s _ sh_pair) <| all_cons (t2 _ _) <| all_cons (shp_tup (all_cons (i _) (all_cons (i _) (all_cons (i _) all_nil)))) <| all_cons (s _ sh_Fix) <| all_cons (shp_tup (n := 1) all_nil) all_nil
abbrev T6 (x0 x1 x2 x3 x4 x5 : Sl) : S := [x0, x1, x2, x3, x4, x5]
def somes (x : D) (r : List D) (n : Int) : List D := [.list (x :: r), .tuple (x :: r ++ [.int 0]), .tuple (cutD (x :: r) none (some (-1))), .tuple (cutD (x :: r) (some 1) none), .none, .dict [], .tuple [], x, .tuple [.str "crank", .int (n - 1), .tuple [.int 1, .int 1]]]
theorem somes_bd {x : D} {r : List D} (n : Int) (h : Shp 3 (.tuple (x :: r))) : ∀ y ∈ somes x r n, Bd y := by
  have hx := shp_in h
  unfold somes
  refine all_cons (bd (shp_list hx) (by decide)) <| all_cons (bd (shp_tup (n := 3) (all_app hx (all_cons ((shp_int _).mono (by decide)) all_nil))) (by decide)) <| all_cons (bd (shp_tup (all_cut hx)) (by decide)) <| all_cons (bd (shp_tup (all_cut hx)) (by decide)) <| all_cons (bd shp_non (by decide)) <| all_cons (.inr rfl) <| all_cons (bd (shp_tup (n := 1) all_nil) (by decide)) <| all_cons (bd (hx x List.mem_cons_self) (by decide)) <| all_cons (bd (shp_step sh_crank (all_cons ((shp_int _).mono (by decide)) (all_cons (shp_tup (all_cons (shp_int _) (all_cons (shp_int _) all_nil))) all_nil))) (by decide)) all_nil
theorem r_bentstep {k : Nat} (h : 2 ≤ k) {s : Int} {b : Bool} (iv : Iv s b) {x : D} {r : List D} (hs : Shp 3 (.tuple (x :: r))) (hl : r.length ≤ 10) (n : Int) : ∃ (d : D) (s' : Int), Bd d ∧ Iv s' b ∧ (calAt g.pr k).run i__law_bent_step [.ow (so s b), .sh (.tuple (x :: r)), .sh (.int n)] = .ok (.sh d) [so s' b] := by
  obtain ⟨k, rfl⟩ := Nat.exists_eq_add_of_le' (show 1 ≤ k by omega)
  rw [rr k (t := ⟨f__law_bent_step, _, _, _⟩) rfl]
  obtain ⟨a, s1, a0, al, iv1, e1⟩ := r_take (k := k) (by omega) iv (m := ((x :: r).length : Int)) (by rw [List.length_cons]; omega) (by rw [List.length_cons]; omega)
  obtain ⟨w, s2, w0, w4, iv2, e2⟩ := r_take (k := k) (by omega) iv1 (m := 4) (by decide) (by decide)
  have ln : bfD .len [.tuple (x :: r)] = some (.sh (.int ((x :: r).length : Int))) := rfl
  have lt : bfD .list [.tuple (x :: r)] = some (.ow (.lst (x :: r))) := rfl
  have h0 := head0 x r
  have ad0 := add_t (xs := x :: r) (ys := [.int 0]) (by rw [List.length_cons, List.length_singleton]; omega)
  have c1 := sl_t (xs := x :: r) (lo := none) (hi := some (-1))
  have c2 := sl_t (xs := x :: r) (lo := some 1) (hi := none)
  have pn : ∀ s : S, partM (.neg (.int 1)) (evE (calAt g.pr k) (.neg (.int 1))) s = .ok (some (-1)) s := fun _ => rfl
  have a1 : evS (calAt g.pr k) [0] bs1 (T6 (.ow (so s b)) (.sh (.tuple (x :: r))) (.sh (.int n)) .un .un .un) = .ok .nx (T6 (.ow (so s1 b)) (.sh (.tuple (x :: r))) (.sh (.int n)) (.sh (.int a)) .un .un) := by
    unfold so T6 at *
    generalize (x :: r).length = m at *
    generalize x :: r = xr at *
    simp (decide := true) only [bs1, EV, q_lcl, asgM, callM, callR, ioIx, argSls, argSl, ioSl, callE, putOuts, outsOf, goodArgs, ioAt, startS, Ob.val, List.set_cons_zero, List.set_cons_succ, List.length_cons, List.length_nil, Nat.reduceAdd, Nat.reduceSub, Nat.reduceLT, Nat.sub_self, List.replicate_zero, List.replicate_succ, List.cons_append, List.nil_append, List.append_nil, reduceIte, Option.map_some, Option.map_none, List.not_mem_nil, List.nodup_nil, if_true, if_false, Bool.false_eq_true, eq_self, or_self, or_false, false_or, Bool.not_true, Bool.not_false, List.map_cons, List.map_nil, decide_true, decide_false, q_ownL, q_pt, ln, e1, List.nodup_cons]
  have a2 : ∃ L, evS (calAt g.pr k) [0] bs2 (T6 (.ow (so s1 b)) (.sh (.tuple (x :: r))) (.sh (.int n)) (.sh (.int a)) .un .un) = .ok .nx (T6 (.ow (so s1 b)) (.sh (.tuple (x :: r))) (.sh (.int n)) (.sh (.int a)) (.ow (.lst L)) .un) ∧ evS (calAt g.pr k) [0] bs3 (T6 (.ow (so s1 b)) (.sh (.tuple (x :: r))) (.sh (.int n)) (.sh (.int a)) (.ow (.lst L)) .un) = .ok .nx (T6 (.ow (so s1 b)) (.sh (.tuple (x :: r))) (.sh (.int n)) (.sh (.int a)) (.ow (.lst (odds n))) .un) := ⟨_, rfl, rfl⟩
  obtain ⟨L, a2, a3⟩ := a2
  have a4 : evS (calAt g.pr k) [0] bs4 (T6 (.ow (so s1 b)) (.sh (.tuple (x :: r))) (.sh (.int n)) (.sh (.int a)) (.ow (.lst (odds n))) .un) = .ok .nx (T6 (.ow (so s1 b)) (.sh (.tuple (x :: r))) (.sh (.int n)) (.sh (.int a)) (.ow (.lst (odds n))) (.ow (.lst (somes x r n)))) := by
    unfold T6 somes
    generalize odds n = O at *
    generalize cutD (x :: r) none (some (-1)) = q1 at *
    generalize cutD (x :: r) (some 1) none = q2 at *
    generalize x :: r ++ [.int 0] = q3 at *
    generalize x :: r = xr at *
    simp (decide := true) only [bs4, EV, q_lcl, asgM, callM, callR, ioIx, argSls, argSl, ioSl, callE, putOuts, outsOf, goodArgs, ioAt, startS, Ob.val, List.set_cons_zero, List.set_cons_succ, List.length_cons, List.length_nil, Nat.reduceAdd, Nat.reduceSub, Nat.reduceLT, Nat.sub_self, List.replicate_zero, List.replicate_succ, List.cons_append, List.nil_append, List.append_nil, reduceIte, Option.map_some, Option.map_none, List.not_mem_nil, List.nodup_nil, if_true, if_false, Bool.false_eq_true, eq_self, or_self, or_false, false_or, Bool.not_true, Bool.not_false, List.map_cons, List.map_nil, decide_true, decide_false, q_ownL, q_pt, lt, h0, ad0, c1, c2, p_non, p_int, p_negM, dic0, lift, List.nodup_cons]
  by_cases cw : w = 0
  · obtain ⟨j, s3, j0, j9, iv3, e3⟩ := r_take (k := k) (by omega) iv2 (m := 9) (by decide) (by decide)
    obtain ⟨d, ix, hd⟩ := pick (somes_bd n hs) j0 (show j < ((somes x r n).length : Int) from j9)
    refine ⟨d, s3, hd, iv3, ?_⟩
    have a5 : evS (calAt g.pr k) [0] bs5 (T6 (.ow (so s1 b)) (.sh (.tuple (x :: r))) (.sh (.int n)) (.sh (.int a)) (.ow (.lst (odds n))) (.ow (.lst (somes x r n)))) = .ok (.rt (.sh d)) (T6 (.ow (so s3 b)) (.sh (.tuple (x :: r))) (.sh (.int n)) (.sh (.int a)) (.ow (.lst (odds n))) (.ow (.lst (somes x r n)))) := by
      clear a1 a2 a3 a4
      subst cw
      unfold so T6 at *
      generalize odds n = O at *
      generalize somes x r n = Z at *
      simp (decide := true) only [bs5, EV, q_lcl, asgM, callM, callR, ioIx, argSls, argSl, ioSl, callE, putOuts, outsOf, goodArgs, ioAt, startS, Ob.val, List.set_cons_zero, List.set_cons_succ, List.length_cons, List.length_nil, Nat.reduceAdd, Nat.reduceSub, Nat.reduceLT, Nat.sub_self, List.replicate_zero, List.replicate_succ, List.cons_append, List.nil_append, List.append_nil, reduceIte, Option.map_some, Option.map_none, List.not_mem_nil, List.nodup_nil, if_true, if_false, Bool.false_eq_true, eq_self, or_self, or_false, false_or, Bool.not_true, Bool.not_false, List.map_cons, List.map_nil, decide_true, decide_false, q_ownL, e2, e3, ix, k_eq, List.nodup_cons]
    exact run_of rfl ((ss_nx a1).trans <| (ss_nx a2).trans <| (ss_nx a3).trans <| (ss_nx a4).trans <| ss_rt a5) rfl
  · obtain ⟨j, s3, j0, j9, iv3, e3⟩ := r_take (k := k) (by omega) iv2 (m := 22) (by decide) (by decide)
    obtain ⟨d, ix, hd⟩ := pick (odds_bd n) j0 (show j < ((odds n).length : Int) from j9)
    have a5 : evS (calAt g.pr k) [0] bs5 (T6 (.ow (so s1 b)) (.sh (.tuple (x :: r))) (.sh (.int n)) (.sh (.int a)) (.ow (.lst (odds n))) (.ow (.lst (somes x r n)))) = .ok .nx (T6 (.ow (so s2 b)) (.sh (.tuple (x :: r))) (.sh (.int n)) (.sh (.int a)) (.ow (.lst (odds n))) (.ow (.lst (somes x r n)))) := by
      clear a1 a2 a3 a4
      unfold so T6 at *
      generalize odds n = O at *
      generalize somes x r n = Z at *
      simp (decide := true) only [bs5, EV, q_lcl, asgM, callM, callR, ioIx, argSls, argSl, ioSl, callE, putOuts, outsOf, goodArgs, ioAt, startS, Ob.val, List.set_cons_zero, List.set_cons_succ, List.length_cons, List.length_nil, Nat.reduceAdd, Nat.reduceSub, Nat.reduceLT, Nat.sub_self, List.replicate_zero, List.replicate_succ, List.cons_append, List.nil_append, List.append_nil, reduceIte, Option.map_some, Option.map_none, List.not_mem_nil, List.nodup_nil, if_true, if_false, Bool.false_eq_true, eq_self, or_self, or_false, false_or, Bool.not_true, Bool.not_false, List.map_cons, List.map_nil, decide_true, decide_false, q_ownL, e2, k_eq, cw, List.nodup_cons]
    have c3 := sl_t (xs := x :: r) (lo := none) (hi := some a)
    have c4 := sl_t (xs := x :: r) (lo := some (a + 1)) (hi := none)
    have l3 := cut_len (xs := x :: r) (lo := none) (hi := some a)
    have l4 := cut_len (xs := x :: r) (lo := some (a + 1)) (hi := none)
    rw [List.length_cons] at l3 l4
    have hx := shp_in hs
    have q3 := all_cut (lo := none) (hi := some a) hx
    have q4 := all_cut (lo := some (a + 1)) (hi := none) hx
    generalize cutD (x :: r) none (some a) = A at *
    generalize cutD (x :: r) (some (a + 1)) none = B at *
    have ad1 := add_t (xs := A) (ys := [d]) (by rw [List.length_singleton]; omega)
    have ad2 := add_t (xs := A ++ [d]) (ys := B) (by rw [List.length_append, List.length_singleton]; omega)
    refine ⟨.tuple (A ++ [d] ++ B), s3, bd (shp_tup (n := 3) (all_app (all_app q3 (all_cons (hd.mono (by decide)) all_nil)) q4)) (by decide), iv3, ?_⟩
    have a6 : evS (calAt g.pr k) [0] bs6 (T6 (.ow (so s2 b)) (.sh (.tuple (x :: r))) (.sh (.int n)) (.sh (.int a)) (.ow (.lst (odds n))) (.ow (.lst (somes x r n)))) = .ok (.rt (.sh (.tuple (A ++ [d] ++ B)))) (T6 (.ow (so s3 b)) (.sh (.tuple (x :: r))) (.sh (.int n)) (.sh (.int a)) (.ow (.lst (odds n))) (.ow (.lst (somes x r n)))) := by
      clear a1 a2 a3 a4 a5
      unfold so T6 at *
      generalize odds n = O at *
      generalize somes x r n = Z at *
      generalize A ++ [d] ++ B = q5 at *
      generalize A ++ [d] = q6 at *
      generalize x :: r = xr at *
      simp (decide := true) only [bs6, EV, q_lcl, asgM, callM, callR, ioIx, argSls, argSl, ioSl, callE, putOuts, outsOf, goodArgs, ioAt, startS, Ob.val, List.set_cons_zero, List.set_cons_succ, List.length_cons, List.length_nil, Nat.reduceAdd, Nat.reduceSub, Nat.reduceLT, Nat.sub_self, List.replicate_zero, List.replicate_succ, List.cons_append, List.nil_append, List.append_nil, reduceIte, Option.map_some, Option.map_none, List.not_mem_nil, List.nodup_nil, if_true, if_false, Bool.false_eq_true, eq_self, or_self, or_false, false_or, Bool.not_true, Bool.not_false, List.map_cons, List.map_nil, decide_true, decide_false, q_ownL, e3, ix, c3, c4, ad1, ad2, p_non, p_varM', p_binA, List.nodup_cons]
    exact run_of rfl ((ss_nx a1).trans <| (ss_nx a2).trans <| (ss_nx a3).trans <| (ss_nx a4).trans <| (ss_nx a5).trans <| ss_rt a6) rfl
end Lw
set_option Elab.async false
set_option linter.all false
set_option maxRecDepth 100000
set_option maxHeartbeats 400000
/-! Law k41: the law. -/
namespace Lw
open PySem Hg
theorem put_ss {C : Cal} {P : List Nat} {tg : Tg} {d : D} {s : St} {t : Sts} {a b : S} (h : ((putT tg d).bind fun _ => evS C P s) a = .ok .nx b) : ((putT tg d).bind fun _ => evSs C P (.cons s t)) a = evSs C P t b := by
  revert h
  unfold M.bind
  cases putT tg d a with
  | bad => intro h; cases h
  | err e s1 => intro h; cases h
  | ok u s1 => exact ss_nx
theorem st_short {ah : List D} {d : D} (h : stD ah d = true) : ∃ s r, d = .tuple (.str s :: r) ∧ r.length ≤ 5 := by
  obtain ⟨s, r, rfl⟩ := st_head h
  refine ⟨s, r, rfl, ?_⟩
  rcases word s with rfl | rfl | rfl | rfl | hw
  · by_cases c : r.length = 2
    · omega
    · rw [st_fix c] at h
      cases h
  · by_cases c : r.length = 2
    · omega
    · rw [st_crank c] at h
      cases h
  · by_cases c : r.length = 4
    · omega
    · rw [st_like c] at h
      cases h
  · by_cases c : r.length = 5
    · omega
    · rw [st_pair c] at h
      cases h
  · rw [st_else hw] at h
    cases h
theorem go_all : ∀ (r ah : List D), goD ah r = true → ∀ x ∈ r, ∃ a, stD a x = true
  | [], _, _, x, hx => nomatch hx
  | y :: r, ah, h, x, hx => by
    have e : (stD ah y && goD (ah ++ [y]) r) = true := h
    rw [Bool.and_eq_true] at e
    rcases List.mem_cons.mp hx with rfl | hx
    · exact ⟨ah, e.1⟩
    · exact go_all r (ah ++ [y]) e.2 x hx
theorem bd_tg {d : D} (h : Bd d) : TG d := fun xs e x hx => by
  rcases h with h | h
  · exact tg_of h (by decide) xs e x hx
  · rw [h] at e
    cases e
theorem tg_tup {xs : List D} (h : ∀ x ∈ xs, Sp x) : TG (.tuple xs) := fun ys e x hx => by
  cases e
  exact h x hx
abbrev T4 (x0 x1 x2 x3 : Sl) : S := [x0, x1, x2, x3]
theorem bt3_t {k : Nat} {s s' : Int} {b : Bool} {ms : List D} {a : Int} {x d : D} {j : Int} (e3 : (calAt g.pr k).run i__law_take [.ow (so s b), .sh (.int 9)] = .ok (.sh (.int j)) [so s' b]) (hx : ixD (.tuple ms) (.int a) = some x) (ix : ixD (.list [.list ms, .tuple [], .none, .int 7, .bool true, .str "fix", .dict [], .tuple [.tuple ms], x]) (.int j) = some d) :
    evS (calAt g.pr k) [0] bt3 (T4 (.ow (so s b)) (.sh (.tuple ms)) (.sh (.int a)) (.sh (.int 0))) = .ok (.rt (.sh d)) (T4 (.ow (so s' b)) (.sh (.tuple ms)) (.sh (.int a)) (.sh (.int 0))) := by
  have lt : bfD .list [.tuple ms] = some (.ow (.lst ms)) := rfl
  unfold so T4 at *
  simp (decide := true) only [bt3, EV, q_lcl, asgM, callM, callR, ioIx, argSls, argSl, ioSl, callE, putOuts, outsOf, goodArgs, ioAt, startS, Ob.val, List.set_cons_zero, List.set_cons_succ, List.length_cons, List.length_nil, Nat.reduceAdd, Nat.reduceSub, Nat.reduceLT, Nat.sub_self, List.replicate_zero, List.replicate_succ, List.cons_append, List.nil_append, List.append_nil, reduceIte, Option.map_some, Option.map_none, List.not_mem_nil, List.nodup_nil, if_true, if_false, Bool.false_eq_true, eq_self, or_self, or_false, false_or, Bool.not_true, Bool.not_false, List.map_cons, List.map_nil, decide_true, decide_false, q_ownL, lt, dic0, lift, hx, e3, ix, k_eq, List.nodup_cons]
theorem bt3_n {k : Nat} {x0 x1 x2 : Sl} {w : Int} (h : w ≠ 0) : evS (calAt g.pr k) [0] bt3 (T4 x0 x1 x2 (.sh (.int w))) = .ok .nx (T4 x0 x1 x2 (.sh (.int w))) := by
  refine ite_f ?_
  simp (decide := true) only [T4, EV, q_lcl, asgM, callM, callR, ioIx, argSls, argSl, ioSl, callE, putOuts, outsOf, goodArgs, ioAt, startS, Ob.val, List.set_cons_zero, List.set_cons_succ, List.length_cons, List.length_nil, Nat.reduceAdd, Nat.reduceSub, Nat.reduceLT, Nat.sub_self, List.replicate_zero, List.replicate_succ, List.cons_append, List.nil_append, List.append_nil, reduceIte, Option.map_some, Option.map_none, List.not_mem_nil, List.nodup_nil, if_true, if_false, Bool.false_eq_true, eq_self, or_self, or_false, false_or, Bool.not_true, Bool.not_false, List.map_cons, List.map_nil, decide_true, decide_false, k_eq, h]
theorem bt4_t {k : Nat} {s s' : Int} {b : Bool} {ms M N : List D} {a : Int} {j : Int} (e3 : (calAt g.pr k).run i__law_take [.ow (so s b), .sh (.int 2)] = .ok (.sh (.int j)) [so s' b]) (hm : binD .Mult (.tuple ms) (.int 8) = some (.sh (.tuple M))) (hc : slD (.tuple M) none (some (7 + j)) = some (.sh (.tuple N))) :
    evS (calAt g.pr k) [0] bt4 (T4 (.ow (so s b)) (.sh (.tuple ms)) (.sh (.int a)) (.sh (.int 1))) = .ok (.rt (.sh (.tuple N))) (T4 (.ow (so s' b)) (.sh (.tuple ms)) (.sh (.int a)) (.sh (.int 1))) := by
  unfold so T4 at *
  simp (decide := true) only [bt4, EV, q_lcl, asgM, callM, callR, ioIx, argSls, argSl, ioSl, callE, putOuts, outsOf, goodArgs, ioAt, startS, Ob.val, List.set_cons_zero, List.set_cons_succ, List.length_cons, List.length_nil, Nat.reduceAdd, Nat.reduceSub, Nat.reduceLT, Nat.sub_self, List.replicate_zero, List.replicate_succ, List.cons_append, List.nil_append, List.append_nil, reduceIte, Option.map_some, Option.map_none, List.not_mem_nil, List.nodup_nil, if_true, if_false, Bool.false_eq_true, eq_self, or_self, or_false, false_or, Bool.not_true, Bool.not_false, List.map_cons, List.map_nil, decide_true, decide_false, q_ownL, hm, hc, p_non, p_binA, e3, k_eq, List.nodup_cons]
theorem bt4_n {k : Nat} {x0 x1 x2 : Sl} {w : Int} (h : w ≠ 1) : evS (calAt g.pr k) [0] bt4 (T4 x0 x1 x2 (.sh (.int w))) = .ok .nx (T4 x0 x1 x2 (.sh (.int w))) := by
  refine ite_f ?_
  simp (decide := true) only [T4, EV, q_lcl, asgM, callM, callR, ioIx, argSls, argSl, ioSl, callE, putOuts, outsOf, goodArgs, ioAt, startS, Ob.val, List.set_cons_zero, List.set_cons_succ, List.length_cons, List.length_nil, Nat.reduceAdd, Nat.reduceSub, Nat.reduceLT, Nat.sub_self, List.replicate_zero, List.replicate_succ, List.cons_append, List.nil_append, List.append_nil, reduceIte, Option.map_some, Option.map_none, List.not_mem_nil, List.nodup_nil, if_true, if_false, Bool.false_eq_true, eq_self, or_self, or_false, false_or, Bool.not_true, Bool.not_false, List.map_cons, List.map_nil, decide_true, decide_false, k_eq, h]
theorem bt5_t {k : Nat} {x0 x2 : Sl} {ms A B C : List D} (ha : slD (.tuple ms) (some 1) none = some (.sh (.tuple A))) (hb : slD (.tuple ms) none (some 1) = some (.sh (.tuple B))) (hc : binD .Add (.tuple A) (.tuple B) = some (.sh (.tuple C))) :
    evS (calAt g.pr k) [0] bt5 (T4 x0 (.sh (.tuple ms)) x2 (.sh (.int 2))) = .ok (.rt (.sh (.tuple C))) (T4 x0 (.sh (.tuple ms)) x2 (.sh (.int 2))) := by
  unfold T4 at *
  simp (decide := true) only [bt5, EV, q_lcl, asgM, callM, callR, ioIx, argSls, argSl, ioSl, callE, putOuts, outsOf, goodArgs, ioAt, startS, Ob.val, List.set_cons_zero, List.set_cons_succ, List.length_cons, List.length_nil, Nat.reduceAdd, Nat.reduceSub, Nat.reduceLT, Nat.sub_self, List.replicate_zero, List.replicate_succ, List.cons_append, List.nil_append, List.append_nil, reduceIte, Option.map_some, Option.map_none, List.not_mem_nil, List.nodup_nil, if_true, if_false, Bool.false_eq_true, eq_self, or_self, or_false, false_or, Bool.not_true, Bool.not_false, List.map_cons, List.map_nil, decide_true, decide_false, ha, hb, hc, p_non, p_int, k_eq]
theorem bt5_n {k : Nat} {x0 x1 x2 : Sl} {w : Int} (h : w ≠ 2) : evS (calAt g.pr k) [0] bt5 (T4 x0 x1 x2 (.sh (.int w))) = .ok .nx (T4 x0 x1 x2 (.sh (.int w))) := by
  refine ite_f ?_
  simp (decide := true) only [T4, EV, q_lcl, asgM, callM, callR, ioIx, argSls, argSl, ioSl, callE, putOuts, outsOf, goodArgs, ioAt, startS, Ob.val, List.set_cons_zero, List.set_cons_succ, List.length_cons, List.length_nil, Nat.reduceAdd, Nat.reduceSub, Nat.reduceLT, Nat.sub_self, List.replicate_zero, List.replicate_succ, List.cons_append, List.nil_append, List.append_nil, reduceIte, Option.map_some, Option.map_none, List.not_mem_nil, List.nodup_nil, if_true, if_false, Bool.false_eq_true, eq_self, or_self, or_false, false_or, Bool.not_true, Bool.not_false, List.map_cons, List.map_nil, decide_true, decide_false, k_eq, h]
theorem bt6_t {k : Nat} {s s' : Int} {b : Bool} {ms A B C E : List D} {a : Int} {x d : D} {x3 : Sl} (hx : ixD (.tuple ms) (.int a) = some x) (e3 : (calAt g.pr k).run i__law_bent_step [.ow (so s b), .sh x, .sh (.int a)] = .ok (.sh d) [so s' b]) (ha : slD (.tuple ms) none (some a) = some (.sh (.tuple A))) (hb : slD (.tuple ms) (some (a + 1)) none = some (.sh (.tuple B))) (hc : binD .Add (.tuple A) (.tuple [d]) = some (.sh (.tuple C))) (he : binD .Add (.tuple C) (.tuple B) = some (.sh (.tuple E))) :
    evS (calAt g.pr k) [0] bt6 (T4 (.ow (so s b)) (.sh (.tuple ms)) (.sh (.int a)) x3) = .ok (.rt (.sh (.tuple E))) (T4 (.ow (so s' b)) (.sh (.tuple ms)) (.sh (.int a)) x3) := by
  unfold so T4 at *
  simp (decide := true) only [bt6, EV, q_lcl, asgM, callM, callR, ioIx, argSls, argSl, ioSl, callE, putOuts, outsOf, goodArgs, ioAt, startS, Ob.val, List.set_cons_zero, List.set_cons_succ, List.length_cons, List.length_nil, Nat.reduceAdd, Nat.reduceSub, Nat.reduceLT, Nat.sub_self, List.replicate_zero, List.replicate_succ, List.cons_append, List.nil_append, List.append_nil, reduceIte, Option.map_some, Option.map_none, List.not_mem_nil, List.nodup_nil, if_true, if_false, Bool.false_eq_true, eq_self, or_self, or_false, false_or, Bool.not_true, Bool.not_false, List.map_cons, List.map_nil, decide_true, decide_false, q_ownL, hx, ha, hb, hc, he, p_non, p_int, p_varM', p_binA, e3, List.nodup_cons]
theorem r_bent {k : Nat} (h : 4 ≤ k) {s : Int} {b : Bool} (iv : Iv s b) {ms : List D} (hm : MS ms) (l1 : 1 ≤ ms.length) (l7 : ms.length ≤ 7) : ∃ (d : D) (s' : Int), TG d ∧ Iv s' b ∧ (calAt g.pr k).run i__law_bent [.ow (so s b), .sh (.tuple ms)] = .ok (.sh d) [so s' b] := by
  obtain ⟨k, rfl⟩ := Nat.exists_eq_add_of_le' (show 1 ≤ k by omega)
  rw [rr k (t := ⟨f__law_bent, _, _, _⟩) rfl]
  obtain ⟨a, s1, a0, al, iv1, e1⟩ := r_take (k := k) (by omega) iv (m := (ms.length : Int)) (by omega) (by omega)
  obtain ⟨w, s2, w0, w12, iv2, e2⟩ := r_take (k := k) (by omega) iv1 (m := 12) (by decide) (by decide)
  have ln : bfD .len [.tuple ms] = some (.sh (.int (ms.length : Int))) := rfl
  have a1 : evS (calAt g.pr k) [0] bt1 (T4 (.ow (so s b)) (.sh (.tuple ms)) .un .un) = .ok .nx (T4 (.ow (so s1 b)) (.sh (.tuple ms)) (.sh (.int a)) .un) := by
    unfold so T4 at *
    simp (decide := true) only [bt1, EV, q_lcl, asgM, callM, callR, ioIx, argSls, argSl, ioSl, callE, putOuts, outsOf, goodArgs, ioAt, startS, Ob.val, List.set_cons_zero, List.set_cons_succ, List.length_cons, List.length_nil, Nat.reduceAdd, Nat.reduceSub, Nat.reduceLT, Nat.sub_self, List.replicate_zero, List.replicate_succ, List.cons_append, List.nil_append, List.append_nil, reduceIte, Option.map_some, Option.map_none, List.not_mem_nil, List.nodup_nil, if_true, if_false, Bool.false_eq_true, eq_self, or_self, or_false, false_or, Bool.not_true, Bool.not_false, List.map_cons, List.map_nil, decide_true, decide_false, q_ownL, q_pt, ln, e1, List.nodup_cons]
  have a2 : evS (calAt g.pr k) [0] bt2 (T4 (.ow (so s1 b)) (.sh (.tuple ms)) (.sh (.int a)) .un) = .ok .nx (T4 (.ow (so s2 b)) (.sh (.tuple ms)) (.sh (.int a)) (.sh (.int w))) := by
    unfold so T4 at *
    simp (decide := true) only [bt2, EV, q_lcl, asgM, callM, callR, ioIx, argSls, argSl, ioSl, callE, putOuts, outsOf, goodArgs, ioAt, startS, Ob.val, List.set_cons_zero, List.set_cons_succ, List.length_cons, List.length_nil, Nat.reduceAdd, Nat.reduceSub, Nat.reduceLT, Nat.sub_self, List.replicate_zero, List.replicate_succ, List.cons_append, List.nil_append, List.append_nil, reduceIte, Option.map_some, Option.map_none, List.not_mem_nil, List.nodup_nil, if_true, if_false, Bool.false_eq_true, eq_self, or_self, or_false, false_or, Bool.not_true, Bool.not_false, List.map_cons, List.map_nil, decide_true, decide_false, q_ownL, q_pt, e2, List.nodup_cons]
  have hp := hm.2.2.1
  obtain ⟨x, hx, px, y, r, ex, rl⟩ := pickT (P := fun d => Shp 3 d ∧ ∃ y r, d = .tuple (y :: r) ∧ r.length ≤ 10) (fun d hd => ⟨hp d hd, by
    obtain ⟨ah, z⟩ := go_all ms [] hm.2.1 d hd
    obtain ⟨s, r, e, l⟩ := st_short z
    exact ⟨_, r, e, by omega⟩⟩) a0 al
  by_cases c0 : w = 0
  · subst c0
    obtain ⟨j, s3, j0, j9, iv3, e3⟩ := r_take (k := k) (by omega) iv2 (m := 9) (by decide) (by decide)
    have all : ∀ z ∈ [PyData.list ms, .tuple [], .none, .int 7, .bool true, .str "fix", .dict [], .tuple [.tuple ms], x], Bd z :=
      all_cons (bd (shp_list hp) (by decide)) <| all_cons (bd (shp_tup (n := 1) all_nil) (by decide)) <| all_cons (bd shp_non (by decide)) <| all_cons (bd (shp_int _) (by decide)) <| all_cons (bd (shp_bool _) (by decide)) <| all_cons (bd (shp_str sh_fix) (by decide)) <| all_cons (.inr rfl) <| all_cons (bd (shp_tup (all_cons (shp_tup hp) all_nil)) (by decide)) <| all_cons (bd px (by decide)) all_nil
    obtain ⟨d, ix, hd⟩ := pick all j0 j9
    exact ⟨d, s3, bd_tg hd, iv3, run_of rfl ((ss_nx a1).trans <| (ss_nx a2).trans <| ss_rt (bt3_t e3 hx ix)) rfl⟩
  · by_cases c1 : w = 1
    · subst c1
      obtain ⟨j, s3, j0, j9, iv3, e3⟩ := r_take (k := k) (by omega) iv2 (m := 2) (by decide) (by decide)
      have ne : ms ≠ [] := fun e => by rw [e] at l1; exact absurd l1 (by decide)
      have hmu : binD .Mult (.tuple ms) (.int 8) = some (.sh (.tuple (List.replicate 8 ms).flatten)) := if_pos ⟨ne, by decide, by decide, by omega⟩
      have hc := sl_t (xs := (List.replicate 8 ms).flatten) (lo := none) (hi := some (7 + j))
      refine ⟨_, s3, bd_tg (bd (shp_tup (n := 3) (all_cut fun z hz => ?_)) (by decide)), iv3, run_of rfl ((ss_nx a1).trans <| (ss_nx a2).trans <| (ss_nx (bt3_n c0)).trans <| ss_rt (bt4_t e3 hmu hc)) rfl⟩
      obtain ⟨l, hl, hz⟩ := List.mem_flatten.mp hz
      rw [List.eq_of_mem_replicate hl] at hz
      exact hp z hz
    · by_cases c2 : w = 2
      · subst c2
        have l3 := cut_len (xs := ms) (lo := some 1) (hi := none)
        have l4 := cut_len (xs := ms) (lo := none) (hi := some 1)
        have hc := add_t (xs := cutD ms (some 1) none) (ys := cutD ms none (some 1)) (by omega)
        exact ⟨_, s2, bd_tg (bd (shp_tup (n := 3) (all_app (all_cut hp) (all_cut hp))) (by decide)), iv2, run_of rfl ((ss_nx a1).trans <| (ss_nx a2).trans <| (ss_nx (bt3_n c0)).trans <| (ss_nx (bt4_n c1)).trans <| ss_rt (bt5_t sl_t sl_t hc)) rfl⟩
      · subst ex
        obtain ⟨d, s3, hd, iv3, e3⟩ := r_bentstep (k := k) (by omega) iv2 px rl a
        have l3 := cut_len (xs := ms) (lo := none) (hi := some a)
        have l4 := cut_len (xs := ms) (lo := some (a + 1)) (hi := none)
        have hc := add_t (xs := cutD ms none (some a)) (ys := [d]) (by rw [List.length_singleton]; omega)
        have he := add_t (xs := cutD ms none (some a) ++ [d]) (ys := cutD ms (some (a + 1)) none) (by rw [List.length_append, List.length_singleton]; omega)
        have sp : ∀ z ∈ ms, Sp z := fun z hz => sp_of (hp z hz) (by decide)
        exact ⟨_, s3, tg_tup (all_app (all_app (all_cut sp) (all_cons (bd_sp hd) all_nil)) (all_cut sp)), iv3, run_of rfl ((ss_nx a1).trans <| (ss_nx a2).trans <| (ss_nx (bt3_n c0)).trans <| (ss_nx (bt4_n c1)).trans <| (ss_nx (bt5_n c2)).trans <| ss_rt (bt6_t hx e3 sl_t sl_t hc he)) rfl⟩
/-! ### the law -/
abbrev T7 (x0 x1 x2 x3 x4 x5 x6 : Sl) : S := [x0, x1, x2, x3, x4, x5, x6]
def I1 (ns : List Int) (s : S) : Prop := ∃ x1 x2 x3 x4 x5 x6, s = T7 (lawArg ns) x1 x2 x3 x4 x5 x6
theorem ms_ma {ms : List D} (hm : MS ms) (l1 : 1 ≤ ms.length) (l7 : ms.length ≤ 7) : maD (.tuple ms) = true := by
  show (decide (1 ≤ (ms.length : Int)) && (decide ((ms.length : Int) ≤ 7) && goD [] ms)) = true
  rw [hm.2.1, decide_eq_true (show 1 ≤ (ms.length : Int) by omega), decide_eq_true (show (ms.length : Int) ≤ 7 by omega)] <;> rfl
theorem in_turn {k : Nat} (h : 9 ≤ k) {s : Int} {b : Bool} (iv : Iv s b) {ms : List D} (hm : MS ms) (l1 : 1 ≤ ms.length) (l7 : ms.length ≤ 7) {x0 x1 x4 x5 x6 : Sl} (t : D) : ∃ s' y5 y6, Iv s' b ∧
    ((putT (.name 4) t).bind fun _ => evSs (calAt g.pr k) [] b3_law) (T7 x0 x1 (.ow (so s b)) (.sh (.tuple ms)) x4 x5 x6) = .ok .nx (T7 x0 x1 (.ow (so s' b)) (.sh (.tuple ms)) (.sh t) y5 y6) := by
  obtain ⟨d, s1, hd, iv1, e1⟩ := r_bent (k := k) (by omega) iv hm l1 l7
  have e2 := r_machine (k := k) (by omega) d hd
  have e3 := r_ldue (k := k) (by omega) d hd
  have tb : ∀ b : Bool, [Ty.bool].any (isTy (.bool b)) = true := fun _ => rfl
  refine ⟨s1, .sh d, .sh (.bool (maD d)), iv1, ?_⟩
  unfold so T7 at *
  cases hb : maD d <;> rw [hb] at e2 e3 <;> simp (decide := true) only [b3_law, EV, q_lcl, asgM, callM, callR, ioIx, argSls, argSl, ioSl, callE, putOuts, outsOf, goodArgs, ioAt, startS, Ob.val, List.set_cons_zero, List.set_cons_succ, List.length_cons, List.length_nil, Nat.reduceAdd, Nat.reduceSub, Nat.reduceLT, Nat.sub_self, List.replicate_zero, List.replicate_succ, List.cons_append, List.nil_append, List.append_nil, reduceIte, Option.map_some, Option.map_none, List.not_mem_nil, List.nodup_nil, if_true, if_false, Bool.false_eq_true, eq_self, or_self, or_false, false_or, Bool.not_true, Bool.not_false, List.map_cons, List.map_nil, decide_true, decide_false, q_ownL, q_pt, e1, e2, e3, tb, k_neb, List.nodup_cons] <;> rfl
theorem law_turn {k : Nat} (h : 9 ≤ k) {ns : List Int} {i : Nat} {s : S} (hs : I1 ns s) : ∃ s1, ((putT (.name 1) (.int (i : Int))).bind fun _ => evSs (calAt g.pr k) [] b1_law) s = .ok .nx s1 ∧ I1 ns s1 := by
  obtain ⟨x1, x2, x3, x4, x5, x6, rfl⟩ := hs
  obtain ⟨s0, bl, iv0, r1⟩ := r_state (k := k) (by omega) (ns := ns) (i := i)
  obtain ⟨ms, s1, hm, l1, l7, iv1, r2⟩ := r_make (k := k) (by omega) iv0
  have r3 := r_machine (k := k) (by omega) (.tuple ms) (tg_of (shp_tup (n := 3) hm.2.2.1) (by decide))
  rw [ms_ma hm l1 l7] at r3
  obtain ⟨S1, t1, s2, y4, y5, y6, iv2, rfl⟩ := foGo_inv (turn := fun d => (putT (.name 4) d).bind fun _ => evSs (calAt g.pr k) [] b3_law) (I := fun S => ∃ s' y4 y5 y6, Iv s' bl ∧ S = T7 (lawArg ns) (.sh (.int (i : Int))) (.ow (so s' bl)) (.sh (.tuple ms)) y4 y5 y6) (ds := [.int 0, .int 1, .int 2, .int 3, .int 4, .int 5]) (s := T7 (lawArg ns) (.sh (.int (i : Int))) (.ow (so s1 bl)) (.sh (.tuple ms)) x4 x5 x6) ⟨s1, x4, x5, x6, iv1, rfl⟩ fun d hd S hS => by
    obtain ⟨s', y4, y5, y6, iv', rfl⟩ := hS
    obtain ⟨s'', z5, z6, iv'', e⟩ := in_turn (k := k) h iv' hm l1 l7 (x0 := lawArg ns) (x1 := .sh (.int (i : Int))) (x4 := y4) (x5 := y5) (x6 := y6) d
    exact ⟨_, e, s'', _, z5, z6, iv'', rfl⟩
  have sr : evSrc (calAt g.pr k) (.rng (.cons (.int 6) .nil)) (T7 (lawArg ns) (.sh (.int (i : Int))) (.ow (so s1 bl)) (.sh (.tuple ms)) x4 x5 x6) = .ok [.int 0, .int 1, .int 2, .int 3, .int 4, .int 5] (T7 (lawArg ns) (.sh (.int (i : Int))) (.ow (so s1 bl)) (.sh (.tuple ms)) x4 x5 x6) := src_rng1 rfl ((rng_1 (n := 6) (by decide)).trans rfl)
  have lp : evS (calAt g.pr k) [] l2_law (T7 (lawArg ns) (.sh (.int (i : Int))) (.ow (so s1 bl)) (.sh (.tuple ms)) x4 x5 x6) = .ok .nx (T7 (lawArg ns) (.sh (.int (i : Int))) (.ow (so s2 bl)) (.sh (.tuple ms)) y4 y5 y6) := fo_of rfl sr t1
  refine ⟨T7 (lawArg ns) (.sh (.int (i : Int))) (.ow (so s2 bl)) (.sh (.tuple ms)) y4 y5 y6, ?_, _, _, _, _, _, _, rfl⟩
  have a1 : ((putT (.name 1) (.int (i : Int))).bind fun _ => evS (calAt g.pr k) [] (.asg (.name 2) (.call 9 (.cons (.var 0) (.cons (.var 1) .nil))))) (T7 (lawArg ns) x1 x2 x3 x4 x5 x6) = .ok .nx (T7 (lawArg ns) (.sh (.int (i : Int))) (.ow (so s0 bl)) x3 x4 x5 x6) := by
    clear lp t1 sr
    unfold so lawArg at *
    simp (decide := true) only [T7, EV, q_lcl, asgM, callM, callR, ioIx, argSls, argSl, ioSl, callE, putOuts, outsOf, goodArgs, ioAt, startS, Ob.val, List.set_cons_zero, List.set_cons_succ, List.length_cons, List.length_nil, Nat.reduceAdd, Nat.reduceSub, Nat.reduceLT, Nat.sub_self, List.replicate_zero, List.replicate_succ, List.cons_append, List.nil_append, List.append_nil, reduceIte, Option.map_some, Option.map_none, List.not_mem_nil, List.nodup_nil, if_true, if_false, Bool.false_eq_true, eq_self, or_self, or_false, false_or, Bool.not_true, Bool.not_false, List.map_cons, List.map_nil, decide_true, decide_false, q_pt, r1, List.nodup_cons]
  have a2 : evS (calAt g.pr k) [] (.asg (.name 3) (.call 21 (.cons (.var 2) .nil))) (T7 (lawArg ns) (.sh (.int (i : Int))) (.ow (so s0 bl)) x3 x4 x5 x6) = .ok .nx (T7 (lawArg ns) (.sh (.int (i : Int))) (.ow (so s1 bl)) (.sh (.tuple ms)) x4 x5 x6) := by
    clear lp t1 sr
    unfold so lawArg at *
    simp (decide := true) only [T7, EV, q_lcl, asgM, callM, callR, ioIx, argSls, argSl, ioSl, callE, putOuts, outsOf, goodArgs, ioAt, startS, Ob.val, List.set_cons_zero, List.set_cons_succ, List.length_cons, List.length_nil, Nat.reduceAdd, Nat.reduceSub, Nat.reduceLT, Nat.sub_self, List.replicate_zero, List.replicate_succ, List.cons_append, List.nil_append, List.append_nil, reduceIte, Option.map_some, Option.map_none, List.not_mem_nil, List.nodup_nil, if_true, if_false, Bool.false_eq_true, eq_self, or_self, or_false, false_or, Bool.not_true, Bool.not_false, List.map_cons, List.map_nil, decide_true, decide_false, q_ownL, q_pt, r2, List.nodup_cons]
  have a3 : evS (calAt g.pr k) [] (.ite (.cmp .IsNot (.call 7 (.cons (.var 3) .nil)) (.bl true)) (.cons (.ret (.bl false)) .nil) (.nil)) (T7 (lawArg ns) (.sh (.int (i : Int))) (.ow (so s1 bl)) (.sh (.tuple ms)) x4 x5 x6) = .ok .nx (T7 (lawArg ns) (.sh (.int (i : Int))) (.ow (so s1 bl)) (.sh (.tuple ms)) x4 x5 x6) := by
    clear lp t1 sr
    refine ite_f ?_
    simp (decide := true) only [T7, EV, q_lcl, asgM, callM, callR, ioIx, argSls, argSl, ioSl, callE, putOuts, outsOf, goodArgs, ioAt, startS, Ob.val, List.set_cons_zero, List.set_cons_succ, List.length_cons, List.length_nil, Nat.reduceAdd, Nat.reduceSub, Nat.reduceLT, Nat.sub_self, List.replicate_zero, List.replicate_succ, List.cons_append, List.nil_append, List.append_nil, reduceIte, Option.map_some, Option.map_none, List.not_mem_nil, List.nodup_nil, if_true, if_false, Bool.false_eq_true, eq_self, or_self, or_false, false_or, Bool.not_true, Bool.not_false, List.map_cons, List.map_nil, decide_true, decide_false, r3, k_nisb]
  exact (put_ss a1).trans <| (ss_nx a2).trans <| (ss_nx a3).trans <| (ss_nx lp).trans rfl
theorem sem (ns : List Int) (hl : ns.length ≤ 63) : (calAt g.pr 100).run i_law [lawArg ns] = .ok (.sh (.bool true)) [] := by
  rw [rr 99 (t := ⟨f_law, _, _, _⟩) rfl]
  exact law_of (c := 5) rfl rfl hl (by decide) (I1 ns) ⟨_, _, _, _, _, _, rfl⟩ (fun s ⟨_, _, _, _, _, _, e⟩ => ⟨_, e⟩) fun i s hs => law_turn (by decide) hs
end Lw
set_option Elab.async false
set_option linter.all false
set_option maxRecDepth 100000
set_option maxHeartbeats 0
open PySem PySem.W PySem.Calls PyProof.Rows
theorem PySem.Challenge.cw_hingedraw_k41_machines_known_holds : PySem.Challenge.rw_hingedraw_k41_machines_known.Holds := by
  w_on; o_law
  refine HandSHeadRun.head_any (r := OpenLaw.row PySem.Challenge.rw_hingedraw_k41_machines_known) (q := view (OpenLaw.row PySem.Challenge.rw_hingedraw_k41_machines_known).prog [34]) (H := Lw.hk) (ob := Lw.ob) (M := 20000) (loose := Lw.loose) (d := HandSHeadRun.topDef (OpenLaw.row PySem.Challenge.rw_hingedraw_k41_machines_known).prog 34) (kwd := []) Lw.ob_eq
    (by kernel_rfl) (fun s => by kernel_rfl) Lw.run (by kernel_rfl) (by kernel_rfl) (by kernel_rfl) (by rfl) (by first | assumption | decide +kernel) (by decide +kernel) ⟨rfl, rfl, rfl, rfl, rfl, by decide +kernel⟩ ?hw ?hc
  case hw => w_witness2
  case hc => exact Hg.walk_run (m := 0) (l := PySem.Challenge.rw_hingedraw_k41_machines_known) (t := ⟨Lw.f_law, Lw.top 34, "law", "law"⟩) (li := 29) (n := 63) (k := 100) (x := "script") Lw.chk rfl rfl rfl (by kernel_rfl) rfl (by decide) (by kernel_rfl) ⟨rfl, by decide, by decide⟩ fun ns h _ => Lw.sem ns h
