import PyProof.Rows.All
import Wide.All
import OpenK.AllK
import Wide.FinOn
import HandS.Base
import HandS.Call
import HandS.List
import HandS.Exc
import HandS.ExcOwn
import HandS.Words
import HandS.Lambda
import HandS.WordsExc
import HandS.TupAny
import HandS.Deep
import HandS.IsInst
import HandS.Wide
import HandS.Style
import HandS.Comp
import HandS.Iter
import HandS.Zip
import HandS.Rev
import KE.GoesEnum
import HandS.TryOnly
import HandS.Flow
import HandS.Dict
import HandS.More
import HandS.ExcIs
import HandS.TryMany
import HandS.Defaults
import HandS.HeadEnd
import HandS.HeadHook1
import KE.KStateDown
import HandS.Ends
import HandS.Head0
import HandS.Head1
import HandS.Head2
import HandS.HeadHook2
import HandS.HeadHook3
import HandS.HeadHook4
import HandS.EndTab
import KE.KNestM
import Lean
import PySem.Challenge.RW_hingedraw_k65_pens_machines
set_option Elab.async false
set_option linter.all false
set_option maxRecDepth 100000
/-! The small language: its terms, its values, its runs. -/
namespace Hg
open PySem

/-! ### values, slots, ends -/
abbrev D := PyData
/-- what an owned slot holds -/
inductive Ob where
  | lst (xs : List D)
  | dic (kvs : List (D × D))
def Ob.val : Ob → D
  | .lst xs => .list xs
  | .dic kvs => .dict kvs
inductive Sl where
  | un
  | sh (d : D)
  | ow (o : Ob)
abbrev S := List Sl
structure Er where
  cls : Nat
  arg : Option D
inductive R (α : Type) where
  | bad
  | ok (a : α) (s : S)
  | err (e : Er) (s : S)
abbrev M (α : Type) := S → R α
def M.pure {α : Type} (a : α) : M α := fun s => .ok a s
def R.bind {α β : Type} (r : R α) (f : α → S → R β) : R β := match r with
  | .bad => .bad
  | .ok a s => f a s
  | .err e s => .err e s
def M.bind {α β : Type} (m : M α) (f : α → M β) : M β := fun s => (m s).bind fun a s' => f a s'
instance : Monad M where
  pure := M.pure
  bind := M.bind
def bad {α : Type} : M α := fun _ => .bad
def lift {α : Type} (o : Option α) : M α := match o with
  | some a => M.pure a
  | none => bad
/-- a slot's content as data -/
def Sl.data : Sl → Option D
  | .un => none
  | .sh d => some d
  | .ow o => some o.val
/-- the data of a result -/
def frz (m : M Sl) : M D := m.bind fun r => lift r.data
/-- an operand: data, or the slot where the content stands -/
inductive Op where
  | d (d : D)
  | v (i : Nat)

/-! ### terms -/
/-- built-in functions by name -/
inductive Bf where
  | len | abs | max | min | int | tuple | list | all | str
  deriving DecidableEq
/-- built-in kinds -/
inductive Ty where
  | int | bool | tuple | list | str
  deriving DecidableEq
mutual
inductive Ex where
  | var (i : Nat)
  | int (i : Int)
  | str (s : Str)
  | bl (b : Bool)
  | non
  | glo (x : Str)
  | bin (op : Operator) (a b : Ex)
  | neg (a : Ex)
  | cmp (op : CmpOp) (a b : Ex)
  | chain (o p : CmpOp) (a b c : Ex)
  | and (es : Exs)
  | or (es : Exs)
  | orv (a b : Ex)
  | not (a : Ex)
  | ife (c a b : Ex)
  | ix (a i : Ex)
  | dix (a i : Ex)
  | dget (a i d : Ex)
  /-- a look-up in a table of the module -/
  | cget (g : Str) (tab : List (Str × Int)) (e : Ex)
  | sl (a : Ex) (lo hi : Ex)
  | rev (a : Ex)
  | tup (es : Exs)
  | lst (es : Exs)
  | dic (ks vs : Exs)
  | call (f : Nat) (es : Exs)
  | bf (b : Bf) (es : Exs)
  | isi (a : Ex) (ts : List Ty)
  | lc (src : Src) (tg : Tg) (c : Ex) (e : Ex) (own : List Nat)
  | lcl (i : Nat) (tg : Tg) (c : Ex) (e : Ex) (own : List Nat)
  | pop (i : Nat) (e : Ex)
  | app (i : Nat) (e : Ex)
  | ext (i : Nat) (e : Ex)
  | ins (i : Nat) (k e : Ex)
  | rfd (r g : Nat) (es : Exs) (ks : List Nat)
inductive Exs where
  | nil
  | cons (e : Ex) (es : Exs)
/-- what is walked -/
inductive Src where
  | seq (e : Ex)
  | rng (es : Exs)
  | zip (a b : Ex)
  | enu (a : Ex)
  | rvd (a : Ex)
/-- targets -/
inductive Tg where
  | name (i : Nat)
  | tup (ts : Tgs)
inductive Tgs where
  | nil
  | cons (t : Tg) (ts : Tgs)
end
/-- what an except suite stores or gives -/
inductive Cst where
  | d (d : D)
  | emp
def Cst.sl : Cst → Sl
  | .d v => .sh v
  | .emp => .ow (.lst [])
inductive Hdl where
  | set (i : Nat) (c : Cst)
  | ret (c : Cst)
mutual
inductive St where
  | asg (t : Tg) (e : Ex)
  | par (i j : Nat) (a b : Ex)
  | par3 (i j l : Nat) (a b c : Ex)
  | six (i : Nat) (k e : Ex)
  | exp (e : Ex)
  | ret (e : Ex)
  | ite (c : Ex) (a b : Sts)
  | whl (c : Ex) (b : Sts)
  | fo (src : Src) (tg : Tg) (b : Sts)
  | rai (c : Nat)
  | tr (b : Sts) (m : Nat) (hs : List (Nat × Hdl))
inductive Sts where
  | nil
  | cons (s : St) (ss : Sts)
end

/-! ### operations on data -/
def okMul (i j : Int) : Bool := decide (i.natAbs.log2 + j.natAbs.log2 < 1000000)
def okDiv (j : Int) : Bool := decide (j ≠ 0) && decide (j.natAbs.log2 < 9000)
def okPow (i j : Int) : Bool := decide (0 ≤ j) && decide (j ≤ 1000000) && decide (i.natAbs < 2 ^ 64)
def binD : Operator → D → D → Option Sl
  | .Add, .int i, .int j => some (.sh (.int (i + j)))
  | .Sub, .int i, .int j => some (.sh (.int (i - j)))
  | .Mult, .int i, .int j => if okMul i j then some (.sh (.int (i * j))) else none
  | .FloorDiv, .int i, .int j => if okDiv j then some (.sh (.int (i.fdiv j))) else none
  | .Mod, .int i, .int j => if j = 0 then none else some (.sh (.int (i.fmod j)))
  | .Pow, .int i, .int j => if okPow i j then some (.sh (.int (i ^ j.toNat))) else none
  | .Add, .list xs, .list ys => if xs.length + ys.length ≤ sizeLine then some (.ow (.lst (xs ++ ys))) else none
  | .Add, .tuple xs, .tuple ys => if xs.length + ys.length ≤ sizeLine then some (.sh (.tuple (xs ++ ys))) else none
  | .Mult, .list xs, .int k => if 0 ≤ k ∧ k < 2 ^ 63 ∧ xs.length * k.toNat ≤ sizeLine then some (.ow (.lst (List.replicate k.toNat xs).flatten)) else none
  | _, _, _ => none
def eqD (x y : D) : Option Bool := if SeqAt.shaped x && SeqAt.shaped y then some (PyData.eqv x y) else none
def isNo : D → Bool
  | .none => true
  | _ => false
def cmpD : CmpOp → D → D → Option Bool
  | .Eq, x, y => eqD x y
  | .NotEq, x, y => (eqD x y).map (!·)
  | .Lt, .int i, .int j => some (decide (i < j))
  | .LtE, .int i, .int j => some (decide (i ≤ j))
  | .Gt, .int i, .int j => some (decide (j < i))
  | .GtE, .int i, .int j => some (decide (j ≤ i))
  | .Is, x, .none => some (isNo x)
  | .IsNot, x, .none => some (!isNo x)
  | .Is, .bool a, .bool b => some (decide (a = b))
  | .IsNot, .bool a, .bool b => some (!decide (a = b))
  | .In, x, .list ys => if SeqAt.shaped x && SeqAt.shaped (.list ys) then some (ys.any fun z => PyData.eqv z x) else none
  | .NotIn, x, .list ys => if SeqAt.shaped x && SeqAt.shaped (.list ys) then some (!ys.any fun z => PyData.eqv z x) else none
  | .In, x, .tuple ys => if SeqAt.shaped x && SeqAt.shaped (.tuple ys) then some (ys.any fun z => PyData.eqv z x) else none
  | .NotIn, x, .tuple ys => if SeqAt.shaped x && SeqAt.shaped (.tuple ys) then some (!ys.any fun z => PyData.eqv z x) else none
  | _, _, _ => none
def ixD : D → D → Option D
  | .list xs, .int i => L2.atI xs i
  | .tuple xs, .int i => L2.atI xs i
  | _, _ => none
/-- a slice -/
def cutD {α : Type} (xs : List α) (lo hi : Option Int) : List α := (xs.drop (HT.sIx xs.length 0 lo)).take (HT.sIx xs.length xs.length hi - HT.sIx xs.length 0 lo)
def slD : D → Option Int → Option Int → Option Sl
  | .list xs, lo, hi => some (.ow (.lst (cutD xs lo hi)))
  | .tuple xs, lo, hi => some (.sh (.tuple (cutD xs lo hi)))
  | _, _, _ => none
def allB : List D → Option Bool
  | [] => some true
  | .bool b :: r => (allB r).map (b && ·)
  | _ :: _ => none
def sN (s : String) : Str := Str.ofString s
def intsD : List D → Option (List Int)
  | [] => some []
  | .int i :: r => (intsD r).map (i :: ·)
  | _ :: _ => none
def bfD : Bf → List D → Option Sl
  | .len, [.list xs] => some (.sh (.int xs.length))
  | .len, [.tuple xs] => some (.sh (.int xs.length))
  | .abs, [.int i] => some (.sh (.int (if i < 0 then -i else i)))
  | .max, [.int i, .int j] => some (.sh (.int (if j > i then j else i)))
  | .min, [.int i, .int j] => some (.sh (.int (if j < i then j else i)))
  | .int, [.int i] => some (.sh (.int i))
  | .int, [.bool b] => some (.sh (.int (if b then 1 else 0)))
  | .tuple, [.list xs] => some (.sh (.tuple xs))
  | .tuple, [.tuple xs] => some (.sh (.tuple xs))
  | .list, [.list xs] => some (.ow (.lst xs))
  | .list, [.tuple xs] => some (.ow (.lst xs))
  | .all, [.list xs] => (allB xs).map fun b => .sh (.bool b)
  | .str, [.int i] => if i.natAbs.log2 < 1920 then some (.sh (.str (toString i))) else none
  | _, _ => none

/-! ### kinds -/
inductive Kn where
  | none | bool | int | str | list | tuple | dict
  deriving DecidableEq
def knOf : D → Kn
  | .none => .none
  | .bool _ => .bool
  | .int _ => .int
  | .str _ => .str
  | .list _ => .list
  | .tuple _ => .tuple
  | .dict _ => .dict
def isKn : Kn → Ty → Bool
  | .int, .int => true
  | .bool, .bool => true
  | .bool, .int => true
  | .tuple, .tuple => true
  | .list, .list => true
  | .str, .str => true
  | _, _ => false
def isTy (d : D) (t : Ty) : Bool := isKn (knOf d) t

/-! ### calls -/
/-- a call's end: its value, what its in-out parameters hold then -/
inductive CR where
  | bad
  | ok (r : Sl) (outs : List Ob)
  | err (e : Er) (outs : List Ob)
/-- an argument: data, or an in-out slot -/
inductive Ag where
  | d (d : D)
  | io (i : Nat)
structure Cal where
  /-- which parameters are in-out -/
  io : Nat → List Bool
  run : Nat → List Sl → CR
  con : Str → Option D
  /-- runs within a lambda -/
  lw : Option (Nat → List Sl → CR)
def Cal.wr (C : Cal) (run : Nat → List Sl → CR) : Cal := { C with run := run }

def resV (i : Nat) : M D := fun s => match s[i]? with
  | some (.ow o) => .ok o.val s
  | some (.sh d) => .ok d s
  | _ => .bad
def resO : Op → M D
  | .d d => M.pure d
  | .v i => resV i
def opV (i : Nat) : M Op := fun s => match s[i]? with
  | some (.ow _) => .ok (.v i) s
  | some (.sh d) => .ok (.d d) s
  | _ => .bad
def ioV (i : Nat) : M Ag := fun s => match s[i]? with
  | some (.ow _) => .ok (.io i) s
  | _ => .bad
/-- a name read: what it owns is let go -/
def varM (i : Nat) : M Sl := fun s => match s[i]? with
  | some (.sh d) => .ok (.sh d) s
  | some (.ow o) => .ok (.sh o.val) (s.set i (.sh o.val))
  | _ => .bad
def resOs : List Op → M (List D)
  | [] => M.pure []
  | x :: xs => (resO x).bind fun d => (resOs xs).bind fun ds => M.pure (d :: ds)
/-- an expression as an operand -/
def opnd (e : Ex) (m : M Sl) : M Op := match e with
  | .var i => opV i
  | _ => (frz m).bind fun d => M.pure (.d d)
def argM (io : Bool) (e : Ex) (m : M Sl) : M Ag := if io then (match e with
  | .var i => ioV i
  | _ => bad) else (frz m).bind fun d => M.pure (.d d)
/-- the slots that a callee gets -/
def ioSl (s : S) (i : Nat) : Option Sl := match s[i]? with
  | some (.ow o) => some (.ow o)
  | _ => none
def argSl (s : S) : Ag → Option Sl
  | .d d => some (.sh d)
  | .io i => ioSl s i
def ioIx : List Ag → List Nat
  | [] => []
  | .io i :: r => i :: ioIx r
  | .d _ :: r => ioIx r
def putOuts (s : S) : List Nat → List Ob → S
  | i :: is, o :: os => putOuts (s.set i (.ow o)) is os
  | _, _ => s
def argSls (s : S) : List Ag → Option (List Sl)
  | [] => some []
  | a :: r => match argSl s a, argSls s r with
    | some x, some xs => some (x :: xs)
    | _, _ => none
def callE (r : CR) (ix : List Nat) (s : S) : R Sl := match r with
  | .bad => .bad
  | .ok r outs => if outs.length = ix.length then .ok r (putOuts s ix outs) else .bad
  | .err e outs => if outs.length = ix.length then .err e (putOuts s ix outs) else .bad
def callR (run : Nat → List Sl → CR) (f : Nat) (as : List Ag) : M Sl := fun s =>
  if (ioIx as).Nodup then (match argSls s as with
    | none => .bad
    | some vs => callE (run f vs) (ioIx as) s) else .bad
def callM (C : Cal) (f : Nat) (as : List Ag) : M Sl := callR C.run f as
/-- nothing can be reached by it -/
def scal : Sl → Bool
  | .sh .none => true
  | .sh (.bool _) => true
  | .sh (.int _) => true
  | .sh (.str _) => true
  | _ => false
def anyV : List Op → Bool
  | [] => false
  | .v _ :: _ => true
  | .d _ :: r => anyV r
def hasT : List Bool → Bool
  | [] => false
  | true :: _ => true
  | false :: r => hasT r
def letG (s : S) (i : Nat) : S := match s[i]? with
  | some (.ow o) => s.set i (.sh o.val)
  | _ => s
/-- what operands own is let go -/
def letGo (s : S) : List Op → S
  | [] => s
  | .v i :: r => letGo (letG s i) r
  | .d _ :: r => letGo s r
/-- a call that changes no argument: owned things are lent where the answer can't bear them -/
def callN (C : Cal) (f : Nat) (xs : List Op) : M Sl := fun s => if xs.length = (C.io f).length then (match resOs xs s with
  | .ok ds _ => if anyV xs then (match C.run f (ds.map Sl.sh) with
    | .ok r [] => if scal r then .ok r s else callM C f (ds.map Ag.d) (letGo s xs)
    | _ => callM C f (ds.map Ag.d) (letGo s xs)) else callM C f (ds.map Ag.d) s
  | _ => .bad) else .bad
/-- a call with one thing just made, that it may change -/
def isTmp : Exs → Bool
  | .cons (.var _) .nil => false
  | .cons _ .nil => true
  | _ => false
def tmpM (C : Cal) (f : Nat) (r : Sl) : M Sl := match r with
  | .ow o => fun s => if (C.io f).length = 1 then (match C.run f [.ow o] with
    | .ok r [_] => .ok r s
    | .err e [_] => .err e s
    | _ => .bad) else .bad
  | _ => bad
/-- the slots behind a call -/
def outS : List Sl → List Ob → List Sl
  | [], _ => []
  | .ow _ :: as, o :: os => .ow o :: outS as os
  | a :: as, os => a :: outS as os
def runR (run : List Sl → CR) (as : List Sl) : R Sl := match run as with
  | .bad => .bad
  | .ok r outs => .ok r (outS as outs)
  | .err e outs => .err e (outS as outs)
/-- a call within a lambda that is asked for its refusal -/
def rfdM (ks : List Nat) (m : M Sl) : M Sl := fun s => match (frz m) s with
  | .bad => .bad
  | .ok _ s' => .ok (.sh .none) s'
  | .err e s' => match ks[e.cls]? with
    | some k => .ok (.ow (.lst [.int (k : Int)])) s'
    | none => .bad
/-- a test -/
def testM (m : M Sl) : M Bool := (frz m).bind fun d => match d with
  | .bool b => M.pure b
  | _ => bad
def bM (b : Bool) : M Sl := M.pure (.sh (.bool b))
def isNon : Ex → Bool
  | .non => true
  | _ => false
/-- a run that must not end in an error -/
def noErr {α : Type} (m : M α) : M α := fun s => match m s with
  | .ok a s' => .ok a s'
  | _ => .bad
/-- whether data counts as true -/
def truD : D → Option Bool
  | .none => some false
  | .bool b => some b
  | .int i => some (i != 0)
  | .list xs => some (!xs.isEmpty)
  | .tuple xs => some (!xs.isEmpty)
  | _ => none
/-- keys that are texts -/
def keysE : Exs → Option (List Str)
  | .nil => some []
  | .cons (.str x) es => (keysE es).map (x :: ·)
  | .cons _ _ => none
def isKey : D → Bool
  | .int _ => true
  | .str _ => true
  | _ => false
def keyEq : D → D → Bool
  | .int i, .int j => decide (i = j)
  | .str x, .str y => decide (x = y)
  | _, _ => false
def lookD : List (D × D) → D → Option D
  | [], _ => none
  | (k, v) :: r, x => if keyEq k x then some v else lookD r x
def dixD : D → D → Option D
  | .dict kvs, k => lookD kvs k
  | _, _ => none
/-- a look-up with something in its stead: the keys are plain ones -/
def dgetD : D → D → D → Option D
  | .dict kvs, k, x => if isKey k && !kvs.isEmpty && kvs.all (fun p => isKey p.1) then some ((lookD kvs k).getD x) else none
  | _, _, _ => none
def cgetD (tab : List (Str × Int)) : D → Option Sl
  | .str x => some (.sh (match tab.lookup x with
    | some i => .int i
    | none => .none))
  | _ => none
def dicD (l : List Str) (ds : List D) : Option Sl := if l.Nodup ∧ l.length ≤ 15 ∧ l ≠ [] ∧ ds.length = l.length then some (.ow (.dic ((l.zip ds).map fun p => (.str p.1, p.2)))) else if l = [] ∧ ds = [] then some (.ow (.dic [])) else none
/-- a slice's bound -/
def partM (e : Ex) (m : M Sl) : M (Option Int) := if isNon e then M.pure none else (frz m).bind fun d => match d with
  | .int i => M.pure (some i)
  | _ => bad
/-- an item stored in a slot -/
def setS (i : Nat) (r : Sl) : M Unit := fun s => if i < s.length then .ok () (s.set i r) else .bad
mutual
def putT : Tg → D → M Unit
  | .name i, d => setS i (.sh d)
  | .tup ts, d => match d with
    | .tuple ds => putTs ts ds
    | .list ds => putTs ts ds
    | _ => bad
def putTs : Tgs → List D → M Unit
  | .nil, [] => M.pure ()
  | .cons t ts, d :: ds => (putT t d).bind fun _ => putTs ts ds
  | _, _ => bad
end
def wipeS (s : S) : List Nat → S
  | [] => s
  | v :: vs => (wipeS s vs).set v .un
/-- the slots vs as they stood in s0 -/
def backS (s0 s : S) : List Nat → S
  | [] => s
  | v :: vs => (backS s0 s vs).set v (s0.getD v .un)
def notOw : Sl → Bool
  | .ow _ => false
  | _ => true
def wipeM (own : List Nat) : M Unit := fun s => .ok () (wipeS s own)
def optCons : Option D → List D → List D
  | some x, r => x :: r
  | none, r => r
/-- a comprehension's turns -/
def lcGo (own : List Nat) (turn : D → M (Option D)) : List D → M (List D)
  | [] => M.pure []
  | d :: ds => (turn d).bind fun o => (wipeM own).bind fun _ => (lcGo own turn ds).bind fun r => M.pure (optCons o r)
def lcM (own : List Nat) (turn : D → M (Option D)) (src : M (List D)) : M Sl := src.bind fun ds s =>
  if own.all (fun i => notOw (s.getD i .un)) && decide (ds.length < sizeLine) then
    (match lcGo own turn ds (wipeS s own) with
    | .bad => .bad
    | .err _ _ => .bad
    | .ok xs s' => .ok (.ow (.lst xs)) (backS s s' own))
  else .bad
/-- a comprehension over a list that the def holds, which is lent meanwhile -/
def lcL (own : List Nat) (turn : D → M (Option D)) (i : Nat) : M Sl := fun s => match s[i]? with
  | some (.ow (.lst ds)) => (match lcM own turn (M.pure ds) (s.set i .un) with
    | .ok r s' => (match s'[i]? with
      | some .un => .ok r (s'.set i (.ow (.lst ds)))
      | _ => .bad)
    | _ => .bad)
  | _ => .bad
def rngD : List D → Option (List D)
  | [.int n] => if -(2 ^ 62) ≤ n ∧ n < 2 ^ 62 then some ((List.range n.toNat).map fun (i : Nat) => PyData.int (i : Int)) else none
  | [.int a, .int b] => if -(2 ^ 62) ≤ a ∧ a < 2 ^ 62 ∧ -(2 ^ 62) ≤ b ∧ b < 2 ^ 62 then some ((List.range (b - a).toNat).map fun (i : Nat) => PyData.int (a + (i : Int))) else none
  | _ => none
def seqD : D → Option (List D)
  | .list xs => some xs
  | .tuple xs => some xs
  | _ => none
def zipD : D → D → Option (List D)
  | .list xs, .list ys => some ((xs.zip ys).map fun p => .tuple [p.1, p.2])
  | .tuple xs, .tuple ys => some ((xs.zip ys).map fun p => .tuple [p.1, p.2])
  | _, _ => none
def revD : D → Option (List D)
  | .list xs => some xs.reverse
  | .tuple xs => some xs.reverse
  | _ => none
def rvD : D → Option Sl
  | .list xs => some (.ow (.lst xs.reverse))
  | _ => none
def enuD : D → Option (List D)
  | .list xs => some (xs.zipIdx.map fun p => .tuple [.int (p.2 : Int), p.1])
  | .tuple xs => some (xs.zipIdx.map fun p => .tuple [.int (p.2 : Int), p.1])
  | _ => none
def popD (xs : List D) (i : Int) : Option (D × List D) := match seqIndex? i xs.length with
  | some k => match xs[k]? with
    | some y => some (y, xs.eraseIdx k)
    | none => none
  | none => none
/-- the list in an owned slot -/
def ownL (i : Nat) : M (List D) := fun s => match s[i]? with
  | some (.ow (.lst xs)) => .ok xs s
  | _ => .bad
def setL (i : Nat) (xs : List D) : M Unit := fun s => .ok () (s.set i (.ow (.lst xs)))
def nonM (i : Nat) (xs : List D) : M Sl := (setL i xs).bind fun _ => M.pure (.sh .none)
def popM (i : Nat) (d : D) (xs : List D) : M Sl := match d with
  | .int k => if -(2 ^ 63) ≤ k ∧ k < 2 ^ 63 then (lift (popD xs k)).bind fun p => (setL i p.2).bind fun _ => M.pure (.sh p.1) else bad
  | _ => bad
def appM (i : Nat) (d : D) (xs : List D) : M Sl := if xs.length < sizeLine then nonM i (xs ++ [d]) else bad
def extM (i : Nat) (d : D) (xs : List D) : M Sl := match d with
  | .list ys => if xs.length + ys.length ≤ sizeLine then nonM i (xs ++ ys) else bad
  | _ => bad
def insM (i : Nat) (q d : D) (xs : List D) : M Sl := match q with
  | .int k => if 0 ≤ k ∧ k ≤ xs.length ∧ xs.length < sizeLine then nonM i (xs.take k.toNat ++ d :: xs.drop k.toNat) else bad
  | _ => bad
mutual
def evE (C : Cal) : Ex → M Sl
  | .var i => varM i
  | .int i => M.pure (.sh (.int i))
  | .str x => M.pure (.sh (.str x))
  | .bl b => M.pure (.sh (.bool b))
  | .non => M.pure (.sh .none)
  | .glo x => lift ((C.con x).map .sh)
  | .bin op a b => (opnd a (evE C a)).bind fun x => (opnd b (evE C b)).bind fun y => (resO x).bind fun d => (resO y).bind fun e => lift (binD op d e)
  | .neg a => (frz (evE C a)).bind fun d => match d with
    | .int i => M.pure (.sh (.int (-i)))
    | _ => bad
  | .cmp op a b => (opnd a (evE C a)).bind fun x => (opnd b (evE C b)).bind fun y => (resO x).bind fun d => (resO y).bind fun e => lift ((cmpD op d e).map fun k => .sh (.bool k))
  | .chain o p a b c => (frz (evE C a)).bind fun x => (frz (evE C b)).bind fun y => (lift (cmpD o x y)).bind fun k => if k then (frz (evE C c)).bind fun z => lift ((cmpD p y z).map fun k => .sh (.bool k)) else bM false
  | .and es => (evAnd C es).bind bM
  | .or es => (evOr C es).bind bM
  | .orv a b => (frz (evE C a)).bind fun d => (lift (truD d)).bind fun k => if k then M.pure (.sh d) else evE C b
  | .not a => (testM (evE C a)).bind fun k => bM (!k)
  | .ife c a b => (testM (evE C c)).bind fun k => if k then evE C a else evE C b
  | .ix a i => (opnd a (evE C a)).bind fun x => (frz (evE C i)).bind fun e => (resO x).bind fun d => lift ((ixD d e).map .sh)
  | .dix a i => (opnd a (evE C a)).bind fun x => (frz (evE C i)).bind fun e => (resO x).bind fun d => lift ((dixD d e).map .sh)
  | .dget a i f => (opnd a (evE C a)).bind fun x => (frz (evE C i)).bind fun e => (frz (evE C f)).bind fun g => (resO x).bind fun d => lift ((dgetD d e g).map .sh)
  | .cget _ tab e => (frz (evE C e)).bind fun d => lift (cgetD tab d)
  | .sl a lo hi => (opnd a (evE C a)).bind fun x => (partM lo (evE C lo)).bind fun l => (partM hi (evE C hi)).bind fun h => (resO x).bind fun d => lift (slD d l h)
  | .rev a => (frz (evE C a)).bind fun d => lift (rvD d)
  | .tup es => (evDs C es).bind fun ds => if ds.length ≤ sizeLine then M.pure (.sh (.tuple ds)) else bad
  | .lst es => (evDs C es).bind fun ds => if ds.length ≤ sizeLine then M.pure (.ow (.lst ds)) else bad
  | .dic ks vs => match keysE ks with
    | some l => noErr ((evDs C vs).bind fun ds => lift (dicD l ds))
    | none => bad
  | .call f es => if hasT (C.io f) then (if isTmp es then (evT C es).bind (tmpM C f) else (evAs C (C.io f) es).bind fun as => callM C f as) else (evOs C es).bind fun xs => callN C f xs
  | .bf b es => (evOs C es).bind fun xs => (resOs xs).bind fun ds => lift (bfD b ds)
  | .isi a ts => (opnd a (evE C a)).bind fun x => (resO x).bind fun d => M.pure (.sh (.bool (ts.any (isTy d))))
  | .lc src tg c e own => lcM own (fun d => (putT tg d).bind fun _ => (testM (evE C c)).bind fun k => if k then (frz (evE C e)).bind fun x => M.pure (some x) else M.pure none) (evSrc C src)
  | .lcl i tg c e own => lcL own (fun d => (putT tg d).bind fun _ => (testM (evE C c)).bind fun k => if k then (frz (evE C e)).bind fun x => M.pure (some x) else M.pure none) i
  | .pop i e => (ownL i).bind fun _ => (frz (evE C e)).bind fun d => (ownL i).bind fun xs => popM i d xs
  | .app i e => (ownL i).bind fun _ => (frz (evE C e)).bind fun d => (ownL i).bind fun xs => appM i d xs
  | .ext i e => (ownL i).bind fun _ => (frz (evE C e)).bind fun d => (ownL i).bind fun xs => extM i d xs
  | .ins i k e => (ownL i).bind fun _ => (frz (evE C k)).bind fun q => (frz (evE C e)).bind fun d => (ownL i).bind fun xs => insM i q d xs
  | .rfd _ g es ks => match C.lw with
    | none => bad
    | some run => rfdM ks ((evAs C (C.io g) es).bind fun as => callR run g as)
def evAnd (C : Cal) : Exs → M Bool
  | .nil => M.pure true
  | .cons e es => (testM (evE C e)).bind fun k => if k then evAnd C es else M.pure false
def evOr (C : Cal) : Exs → M Bool
  | .nil => M.pure false
  | .cons e es => (testM (evE C e)).bind fun k => if k then M.pure true else evOr C es
def evT (C : Cal) : Exs → M Sl
  | .nil => bad
  | .cons e _ => evE C e
def evDs (C : Cal) : Exs → M (List D)
  | .nil => M.pure []
  | .cons e es => (frz (evE C e)).bind fun d => (evDs C es).bind fun ds => M.pure (d :: ds)
def evOs (C : Cal) : Exs → M (List Op)
  | .nil => M.pure []
  | .cons e es => (opnd e (evE C e)).bind fun d => (evOs C es).bind fun ds => M.pure (d :: ds)
def evAs (C : Cal) : List Bool → Exs → M (List Ag)
  | [], .nil => M.pure []
  | b :: bs, .cons e es => (argM b e (evE C e)).bind fun d => (evAs C bs es).bind fun ds => M.pure (d :: ds)
  | _, _ => bad
def evSrc (C : Cal) : Src → M (List D)
  | .seq e => (frz (evE C e)).bind fun d => lift (seqD d)
  | .rng es => (evDs C es).bind fun ds => lift (rngD ds)
  | .zip a b => (frz (evE C a)).bind fun x => (frz (evE C b)).bind fun y => lift (zipD x y)
  | .enu a => (frz (evE C a)).bind fun x => lift (enuD x)
  | .rvd a => (frz (evE C a)).bind fun x => lift (revD x)
end

/-! ### statements -/
inductive Fl where
  | nx
  | rt (r : Sl)
def whN (c : M Bool) (b : M Fl) : Nat → M Fl
  | 0 => bad
  | n + 1 => c.bind fun k => if k then b.bind fun f => (match f with
    | .nx => whN c b n
    | .rt r => M.pure (.rt r)) else M.pure .nx
def R.isBad {α : Type} : R α → Prop
  | .bad => True
  | _ => False
open Classical in
noncomputable def whM (c : M Bool) (b : M Fl) : M Fl := fun s => if h : ∃ n, ¬ (whN c b n s).isBad then whN c b (Classical.choose h) s else .bad
def foGo (turn : D → M Fl) : List D → M Fl
  | [] => M.pure .nx
  | d :: ds => (turn d).bind fun f => match f with
    | .nx => foGo turn ds
    | .rt r => M.pure (.rt r)
/-- a store into a name; P: the slots that must stay -/
def asgM (P : List Nat) (i : Nat) (r : Sl) : M Unit := if i ∈ P then bad else setS i r
mutual
def okT (P : List Nat) : Tg → Bool
  | .name i => decide (i ∉ P)
  | .tup ts => okTs P ts
def okTs (P : List Nat) : Tgs → Bool
  | .nil => true
  | .cons t ts => okT P t && okTs P ts
end
def nx (m : M Unit) : M Fl := m.bind fun _ => M.pure .nx
/-- what is returned: an owned name's content leaves with it -/
def retM (P : List Nat) (e : Ex) (m : M Sl) : M Sl := match e with
  | .var i => fun s => match s[i]? with
    | some (.ow o) => if i ∈ P then .bad else .ok (.ow o) (s.set i .un)
    | some (.sh d) => .ok (.sh d) s
    | _ => .bad
  | _ => m
def sixJ (i : Nat) (d : D) (xs : List D) : Option Nat → M Unit
  | some j => setL i (xs.set j d)
  | none => bad
def sixL (i : Nat) (q d : D) (xs : List D) : M Unit := match q with
  | .int n => sixJ i d xs (L2.ixN xs.length n)
  | _ => bad
def sixM (i : Nat) (q d : D) : M Unit := (ownL i).bind fun xs => sixL i q d xs
def runH (P : List Nat) : Hdl → M Fl
  | .set i c => nx (asgM P i c.sl)
  | .ret c => M.pure (.rt c.sl)
/-- behind a try's body -/
def trR (P : List Nat) (m : Nat) (hs : List (Nat × Hdl)) : R Fl → R Fl
  | .err e s => if e.cls < m then (match hs.lookup e.cls with
    | some h => runH P h s
    | none => .err e s) else .bad
  | r => r
mutual
noncomputable def evS (C : Cal) (P : List Nat) : St → M Fl
  | .asg t e => match t with
    | .name i => (evE C e).bind fun r => nx (asgM P i r)
    | .tup ts => if okTs P ts then (frz (evE C e)).bind fun d => nx (putT (.tup ts) d) else bad
  | .par i j a b => if i ∈ P ∨ j ∈ P then bad else (frz (evE C a)).bind fun x => (frz (evE C b)).bind fun y => nx ((setS i (.sh x)).bind fun _ => setS j (.sh y))
  | .par3 i j l a b c => if i ∈ P ∨ j ∈ P ∨ l ∈ P then bad else (frz (evE C a)).bind fun x => (frz (evE C b)).bind fun y => (frz (evE C c)).bind fun z => nx ((setS i (.sh x)).bind fun _ => (setS j (.sh y)).bind fun _ => setS l (.sh z))
  | .six i k e => (frz (evE C e)).bind fun d => (ownL i).bind fun _ => (frz (evE C k)).bind fun q => nx (sixM i q d)
  | .exp e => (evE C e).bind fun _ => M.pure .nx
  | .ret e => (retM P e (evE C e)).bind fun r => M.pure (.rt r)
  | .ite c a b => (testM (evE C c)).bind fun k => if k then evSs C P a else evSs C P b
  | .whl c b => whM (testM (evE C c)) (evSs C P b)
  | .fo src tg b => if okT P tg then (evSrc C src).bind fun ds => foGo (fun d => (putT tg d).bind fun _ => evSs C P b) ds else bad
  | .rai c => fun s => .err ⟨c, none⟩ s
  | .tr b m hs => fun s => trR P m hs (evSs C P b s)
noncomputable def evSs (C : Cal) (P : List Nat) : Sts → M Fl
  | .nil => M.pure .nx
  | .cons st ss => (evS C P st).bind fun f => match f with
    | .nx => evSs C P ss
    | .rt r => M.pure (.rt r)
end
/-! ### defs -/
structure Fd where
  name : Str
  /-- the names by slot, parameters first -/
  N : List Str
  /-- which parameters are in-out -/
  io : List Bool
  body : Sts
def ioAt : Nat → List Bool → List Nat
  | _, [] => []
  | n, true :: r => n :: ioAt (n + 1) r
  | n, false :: r => ioAt (n + 1) r
def outsOf (s : S) : List Nat → Option (List Ob)
  | [] => some []
  | i :: r => match s[i]? with
    | some (.ow o) => (outsOf s r).map (o :: ·)
    | _ => none
def goodArgs : List Bool → List Sl → Bool
  | [], [] => true
  | true :: bs, .ow _ :: vs => goodArgs bs vs
  | false :: bs, .sh _ :: vs => goodArgs bs vs
  | _, _ => false
def startS (n : Nat) (vs : List Sl) : S := vs ++ List.replicate (n - vs.length) .un
noncomputable def runFd (C : Cal) (fd : Fd) (vs : List Sl) : CR :=
  if goodArgs fd.io vs then (match evSs C (ioAt 0 fd.io) fd.body (startS fd.N.length vs) with
    | .bad => .bad
    | .ok .nx s => match outsOf s (ioAt 0 fd.io) with
      | some outs => .ok (.sh .none) outs
      | none => .bad
    | .ok (.rt r) s => match outsOf s (ioAt 0 fd.io) with
      | some outs => .ok r outs
      | none => .bad
    | .err e s => match outsOf s (ioAt 0 fd.io) with
      | some outs => .err e outs
      | none => .bad) else .bad
structure Pr where
  defs : List Fd
  con : Str → Option D
noncomputable def calAt (p : Pr) : Nat → Cal
  | 0 => ⟨fun f => (p.defs[f]?.map (·.io)).getD [], fun _ _ => .bad, p.con, none⟩
  | 1 => ⟨fun f => (p.defs[f]?.map (·.io)).getD [], fun f vs => match p.defs[f]? with
    | some fd => runFd (calAt p 0) fd vs
    | none => .bad, p.con, none⟩
  | k + 2 => ⟨fun f => (p.defs[f]?.map (·.io)).getD [], fun f vs => match p.defs[f]? with
    | some fd => runFd (calAt p (k + 1)) fd vs
    | none => .bad, p.con, some (calAt p k).run⟩
end Hg
set_option Elab.async false
set_option linter.all false
set_option maxRecDepth 100000
set_option maxHeartbeats 400000
/-! Data and slots over the abstract heap. -/
namespace Hg
open PySem PySem.Spec PyProof.Rows L2

/-- not a table of code objects -/
def NT (o : HO) : Prop := ∀ ps, o ≠ .tbl ps
theorem NT.lst {xs : List V} : NT (.lst xs) := fun _ z => nomatch z
theorem NT.tup {xs : List V} : NT (.tup xs) := fun _ z => nomatch z
theorem NT.frz {o : Obj} {u : HO} : NT (.frz o u) := fun _ z => nomatch z
theorem NT.dT {xs : List (List Key × V)} : NT (.dT xs) := fun _ z => nomatch z
theorem NT.dK {xs : List (Key × V)} : NT (.dK xs) := fun _ z => nomatch z
/-- the code object of a def, its table -/
def codeRef (fd : FuncData) : Addr := match fd.code with
  | .ref c => c
  | _ => 0
def tabAt (K : PySem.W.Frag) (c : Addr) : Addr := match K.lookup c with
  | some ⟨_, _, .fields fs, _⟩ => (match fs.getD 11 .none with
    | .ref t => t
    | _ => 0)
  | _ => 0
/-- the defs that are known: code, table, what a lambda of theirs is called -/
def cods (K : PySem.W.Frag) : List (Addr × Addr × Str) := K.filterMap fun p => match p.2.data with
  | .func fd => if fd.globals = mainGlobals then some (codeRef fd, tabAt K (codeRef fd), fd.qualname ++ ".<locals>." ++ "<lambda>") else none
  | _ => none
def TbL (K : PySem.W.Frag) : List (Addr × Str) := (cods K).map fun c => (c.2.1, c.2.2)
def Tb (K : PySem.W.Frag) (H : Hp) : Prop := LamX.Tabs (TbL K) H
def notCode (o : HO) : Prop := NT o ∧ ∀ c q, o ≠ LamX.CodeO c q
theorem Tb.new {K : PySem.W.Frag} {H : Hp} {p : Addr} {o : HO} (t : Tb K H) (h : H p = none) : Tb K (upd H p o) := LamX.Tabs.ext t fun b u e => by rw [upd_ne (ne_of_none e h)]; exact e
theorem Tb.put {K : PySem.W.Frag} {H : Hp} {p : Addr} {o u : HO} (t : Tb K H) (h : H p = some u) (n : notCode u) : Tb K (upd H p o) := fun z hz => by
  obtain ⟨ps, h1, h2, h3⟩ := t z hz
  refine ⟨ps, ?_, h2, fun pos cv hc => ?_⟩
  · rw [upd_ne fun y => ?_]
    · exact h1
    · rw [y, h] at h1
      exact n.1 ps (Option.some.inj h1)
  · obtain ⟨c, e1, e2⟩ := h3 pos cv hc
    refine ⟨c, e1, ?_⟩
    rw [upd_ne fun y => ?_]
    · exact e2
    · rw [y, h] at e2
      exact n.2 _ _ (Option.some.inj e2)
theorem notCode.lst {xs : List V} : notCode (.lst xs) := ⟨(fun _ z => nomatch z), fun _ _ z => by unfold LamX.CodeO at z; cases z⟩
theorem notCode.dT {xs : List (List Key × V)} : notCode (.dT xs) := ⟨(fun _ z => nomatch z), fun _ _ z => by unfold LamX.CodeO at z; cases z⟩
theorem notCode.dK {xs : List (Key × V)} : notCode (.dK xs) := ⟨(fun _ z => nomatch z), fun _ _ z => by unfold LamX.CodeO at z; cases z⟩
def Le (H H' : Hp) : Prop := ∀ b o, NT o → H b = some o → H' b = some o
theorem Le.refl (H : Hp) : Le H H := fun _ _ _ h => h
theorem Le.trans {H H1 H2 : Hp} (a : Le H H1) (b : Le H1 H2) : Le H H2 := fun c o n h => b c o n (a c o n h)
theorem Le.new {H : Hp} {p : Addr} {o : HO} (h : H p = none) : Le H (upd H p o) := fun b u _ e => by rw [upd_ne (ne_of_none e h)]; exact e
theorem Le.rd {H H' : Hp} (l : Le H H') {a : Addr} {u : HO} (n : NT u) (h : Rd H a u) : Rd H' a u := by
  rcases h with h | ⟨o, h⟩
  · exact .inl (l _ _ n h)
  · exact .inr ⟨o, l _ _ .frz h⟩
theorem Le.sqL {H H' : Hp} {K : PySem.W.Frag} (l : Le H H') {a : Addr} {xs : List V} (h : SqL K H a xs) : SqL K H' a xs := h.imp (l.rd .lst) id
/-- a list as it is read: tracked, known, or an object of the module -/
def RdK (K : PySem.W.Frag) (H : Hp) (a : Addr) (xs : List V) : Prop := Rd H a (.lst xs) ∨ ∃ its : List Value, K.lookup a = some { cls := .type "list", data := .seq its.toArray } ∧ its.length ≤ sizeLine ∧ Vals xs its
theorem Le.rdK {H H' : Hp} {K : PySem.W.Frag} (l : Le H H') {a : Addr} {xs : List V} (h : RdK K H a xs) : RdK K H' a xs := h.imp (l.rd .lst) id
theorem RdK.sqL {H : Hp} {K : PySem.W.Frag} {a : Addr} {xs : List V} (h : RdK K H a xs) : SqL K H a xs := h.imp id fun ⟨its, e, z, r⟩ => ⟨_, its.toArray, 0, e, rfl, rfl, rfl, by rw [List.size_toArray]; exact z, by simpa using r⟩
theorem RdK.obj {K : PySem.W.Frag} {P : Program} {w : World} {H : Hp} {h : Heap} {a : Addr} {xs : List V} (r : RdK K H a xs) (kx : K.In h) (ok : HOk P w H h) : xs.length ≤ sizeLine ∧ ∃ (its : List Value) (n : Nat), Vals xs its ∧ h.get? a = some { cls := .type "list", data := .seq its.toArray n } := by
  rcases r with r | ⟨its, e, z, r⟩
  · obtain ⟨z, its, n, r, e⟩ := r.ok ok
    exact ⟨z, its, n, r, e⟩
  · exact ⟨by rw [r.length]; exact z, its, 0, r, kx _ _ e⟩
theorem Le.sqT {H H' : Hp} {K : PySem.W.Frag} (l : Le H H') {a : Addr} {xs : List V} (h : SqT K H a xs) : SqT K H' a xs := h.imp (l.rd .tup) id

def keyD : Key → D
  | .inl i => .int i
  | .inr x => .str x
mutual
/-- the value v bears the data -/
inductive Rp (K : PySem.W.Frag) (H : Hp) : V → D → Prop
  | non : Rp K H .non .none
  | bl (b : Bool) : Rp K H (.bl b) (.bool b)
  | int (i : Int) : Rp K H (.int i) (.int i)
  | str (x : Str) : Rp K H (.str x) (.str x)
  | lst {a : Addr} {xs : List V} {ds : List D} : RdK K H a xs → RpA K H xs ds → Rp K H (.ref a) (.list ds)
  | tup {a : Addr} {xs : List V} {ds : List D} : SqT K H a xs → RpA K H xs ds → Rp K H (.ref a) (.tuple ds)
  | dT {a : Addr} {ks : List (List Key × V)} {kvs : List (D × D)} : H a = some (.dT ks) → RpT K H ks kvs → Rp K H (.ref a) (.dict kvs)
  | dK {a : Addr} {ks : List (Key × V)} {kvs : List (D × D)} : H a = some (.dK ks) → RpK K H ks kvs → Rp K H (.ref a) (.dict kvs)
inductive RpA (K : PySem.W.Frag) (H : Hp) : List V → List D → Prop
  | nil : RpA K H [] []
  | cons {v : V} {vs : List V} {d : D} {ds : List D} : Rp K H v d → RpA K H vs ds → RpA K H (v :: vs) (d :: ds)
inductive RpT (K : PySem.W.Frag) (H : Hp) : List (List Key × V) → List (D × D) → Prop
  | nil : RpT K H [] []
  | cons {k : List Key} {v : V} {vs : List (List Key × V)} {d : D} {ds : List (D × D)} : Rp K H v d → RpT K H vs ds → RpT K H ((k, v) :: vs) ((.tuple (k.map keyD), d) :: ds)
inductive RpK (K : PySem.W.Frag) (H : Hp) : List (Key × V) → List (D × D) → Prop
  | nil : RpK K H [] []
  | cons {k : Key} {v : V} {vs : List (Key × V)} {d : D} {ds : List (D × D)} : Rp K H v d → RpK K H vs ds → RpK K H ((k, v) :: vs) ((keyD k, d) :: ds)
end
section
variable {K : PySem.W.Frag} {H H' : Hp}
mutual
theorem Rp.mono (l : Le H H') : ∀ (d : D) (v : V), Rp K H v d → Rp K H' v d
  | .none, _, h => by cases h; exact .non
  | .bool b, _, h => by cases h; exact .bl b
  | .int i, _, h => by cases h; exact .int i
  | .str x, _, h => by cases h; exact .str x
  | .list ds, _, h => by
    cases h with
    | lst a b => exact .lst (l.rdK a) (RpA.mono l _ _ b)
  | .tuple ds, _, h => by
    cases h with
    | tup a b => exact .tup (l.sqT a) (RpA.mono l _ _ b)
  | .dict kvs, _, h => by
    cases h with
    | dT a b => exact .dT (l _ _ .dT a) (RpT.mono l _ _ b)
    | dK a b => exact .dK (l _ _ .dK a) (RpK.mono l _ _ b)
theorem RpA.mono (l : Le H H') : ∀ (ds : List D) (vs : List V), RpA K H vs ds → RpA K H' vs ds
  | [], _, h => by cases h; exact .nil
  | d :: ds, _, h => by
    cases h with
    | cons a b => exact .cons (Rp.mono l _ _ a) (RpA.mono l _ _ b)
theorem RpT.mono (l : Le H H') : ∀ (ds : List (D × D)) (vs : List (List Key × V)), RpT K H vs ds → RpT K H' vs ds
  | [], _, h => by cases h; exact .nil
  | (_, d) :: ds, _, h => by
    cases h with
    | cons a b => exact .cons (Rp.mono l _ _ a) (RpT.mono l _ _ b)
theorem RpK.mono (l : Le H H') : ∀ (ds : List (D × D)) (vs : List (Key × V)), RpK K H vs ds → RpK K H' vs ds
  | [], _, h => by cases h; exact .nil
  | (_, d) :: ds, _, h => by
    cases h with
    | cons a b => exact .cons (Rp.mono l _ _ a) (RpK.mono l _ _ b)
end
theorem RpA.length : ∀ {vs : List V} {ds : List D}, RpA K H vs ds → vs.length = ds.length
  | _, _, .nil => rfl
  | _, _, .cons _ b => congrArg Nat.succ b.length
theorem RpA.get : ∀ {vs : List V} {ds : List D} {i : Nat} {d : D}, RpA K H vs ds → ds[i]? = some d → ∃ v, vs[i]? = some v ∧ Rp K H v d
  | _, _, _, _, .nil, e => by simp at e
  | _, _, 0, _, .cons a _, e => by simp at e; subst e; exact ⟨_, rfl, a⟩
  | _, _, i + 1, _, .cons _ b, e => by
    obtain ⟨v, h1, h2⟩ := RpA.get (i := i) b (by simpa using e)
    exact ⟨v, by simpa using h1, h2⟩
theorem RpA.append : ∀ {vs ws : List V} {ds es : List D}, RpA K H vs ds → RpA K H ws es → RpA K H (vs ++ ws) (ds ++ es)
  | _, _, _, _, .nil, h => h
  | _, _, _, _, .cons a b, h => .cons a (b.append h)
theorem RpA.take : ∀ {vs : List V} {ds : List D} (n : Nat), RpA K H vs ds → RpA K H (vs.take n) (ds.take n)
  | _, _, 0, _ => .nil
  | _, _, _ + 1, .nil => .nil
  | _, _, n + 1, .cons a b => .cons a (RpA.take n b)
theorem RpA.drop : ∀ {vs : List V} {ds : List D} (n : Nat), RpA K H vs ds → RpA K H (vs.drop n) (ds.drop n)
  | _, _, 0, h => h
  | _, _, _ + 1, .nil => .nil
  | _, _, n + 1, .cons _ b => RpA.drop n b
theorem RpA.set {v : V} {d : D} (h : Rp K H v d) : ∀ {vs : List V} {ds : List D} (n : Nat), RpA K H vs ds → RpA K H (vs.set n v) (ds.set n d)
  | _, _, _, .nil => .nil
  | _, _, 0, .cons _ b => .cons h b
  | _, _, n + 1, .cons a b => .cons a (RpA.set h n b)
theorem RpA.erase : ∀ {vs : List V} {ds : List D} (n : Nat), RpA K H vs ds → RpA K H (vs.eraseIdx n) (ds.eraseIdx n)
  | _, _, _, .nil => .nil
  | _, _, 0, .cons _ b => b
  | _, _, n + 1, .cons a b => .cons a (RpA.erase n b)
theorem RpA.reverse {vs : List V} {ds : List D} (h : RpA K H vs ds) : RpA K H vs.reverse ds.reverse := by
  have go : ∀ {vs : List V} {ds : List D}, RpA K H vs ds → RpA K H vs.reverse ds.reverse := by
    intro vs
    induction vs with
    | nil => intro ds h; cases h; exact .nil
    | cons v vs ih =>
      intro ds h
      cases h with
      | cons a b =>
        rw [List.reverse_cons, List.reverse_cons]
        exact (ih b).append (.cons a .nil)
  exact go h
theorem RpA.rep {vs : List V} {ds : List D} (h : RpA K H vs ds) : ∀ n, RpA K H (List.replicate n vs).flatten (List.replicate n ds).flatten
  | 0 => .nil
  | n + 1 => by
    rw [List.replicate_succ, List.replicate_succ, List.flatten_cons, List.flatten_cons]
    exact h.append (RpA.rep h n)
theorem RpA.ints : ∀ {vs : List V} {ds : List D} {ns : List Int}, RpA K H vs ds → intsD ds = some ns → vs = ns.map V.int
  | _, _, ns, .nil, e => by
    have e : some [] = some ns := e
    cases e; rfl
  | _, _, ns, .cons (d := d) (ds := ds) a b, e => by
    cases d with
    | int i =>
      cases a
      have e : (intsD ds).map (i :: ·) = some ns := e
      cases q : intsD ds with
      | none => rw [q] at e; cases e
      | some ms =>
        rw [q] at e
        cases e
        rw [RpA.ints b q] <;> rfl
    | _ => cases e
theorem RpA.bools : ∀ {vs : List V} {ds : List D} {r : Bool}, RpA K H vs ds → allB ds = some r → ∃ bs : List Bool, vs = bs.map V.bl ∧ r = bs.all id
  | _, _, r, .nil, e => by
    have e : some true = some r := e
    cases e; exact ⟨[], rfl, rfl⟩
  | _, _, r, .cons (d := d) (ds := ds) a b, e => by
    cases d with
    | bool k =>
      cases a
      have e : (allB ds).map (k && ·) = some r := e
      cases q : allB ds with
      | none => rw [q] at e; cases e
      | some r' =>
        rw [q] at e
        cases e
        obtain ⟨bs, e1, e2⟩ := RpA.bools b q
        exact ⟨k :: bs, by rw [e1] <;> rfl, by rw [e2] <;> rfl⟩
    | _ => cases e
mutual
/-- data without dicts, as the layer has it -/
theorem Rp.dp : ∀ (d : D) (v : V), Rp K H v d → d.canLay0 = true → Dp K H v d
  | .none, _, h, _ => by cases h; exact .non
  | .bool b, _, h, _ => by cases h; exact .bl b
  | .int i, _, h, _ => by cases h; exact .int i
  | .str x, _, h, _ => by cases h; exact .str x
  | .list ds, _, h, c => by
    cases h with
    | lst a b => exact .lst a.sqL (RpA.dp _ _ b (by simpa [PyData.canLay0] using c))
  | .tuple ds, _, h, c => by
    cases h with
    | tup a b => exact .tup a (RpA.dp _ _ b (by simpa [PyData.canLay0] using c))
  | .dict kvs, _, h, c => by simp [PyData.canLay0] at c
theorem RpA.dp : ∀ (ds : List D) (vs : List V), RpA K H vs ds → PyData.canLayAll0 ds = true → DpAll K H vs ds
  | [], _, h, _ => by cases h; exact .nil
  | d :: ds, _, h, c => by
    have c' : d.canLay0 = true ∧ PyData.canLayAll0 ds = true := by simpa [PyData.canLayAll0] using c
    cases h with
    | cons a b => exact .cons (Rp.dp _ _ a c'.1) (RpA.dp _ _ b c'.2)
end
end

/-! ### what is hidden -/
open Classical in
noncomputable def Hid (N : Addr → Prop) (H : Hp) : Hp := fun b => if N b then none else H b
theorem hid_iff {N : Addr → Prop} {H : Hp} {b : Addr} {o : HO} : Hid N H b = some o ↔ ¬ N b ∧ H b = some o := by
  unfold Hid
  by_cases h : N b
  · simp [h]
  · simp [h]
theorem hid_le {N : Addr → Prop} {H : Hp} : Le (Hid N H) H := fun b o _ e => (hid_iff.mp e).2
abbrev NS := Addr → Prop
def Own (s : S) (σ : L2.St) (b : Addr) : Prop := ∃ (i : Nat) (o : Ob), s[i]? = some (.ow o) ∧ σ[i]? = some (some (.ref b))
def Nn (F : NS) (s : S) (σ : L2.St) : NS := fun b => F b ∨ Own s σ b
def Ad (F : NS) (p : Addr) : NS := fun b => F b ∨ b = p
def OwAt (K : PySem.W.Frag) (N : NS) (H : Hp) (p : Addr) : Ob → Prop
  | .lst ds => ∃ vs, H p = some (.lst vs) ∧ RpA K (Hid N H) vs ds
  | .dic kvs => (∃ ks, H p = some (.dT ks) ∧ RpT K (Hid N H) ks kvs) ∨ (∃ ks, H p = some (.dK ks) ∧ RpK K (Hid N H) ks kvs)
structure StOk (K : PySem.W.Frag) (F : NS) (s : S) (σ : L2.St) (H : Hp) : Prop where
  len : s.length = σ.length
  sh : ∀ (i : Nat) (d : D), s[i]? = some (.sh d) → ∃ v, σ[i]? = some (some v) ∧ Rp K (Hid (Nn F s σ) H) v d
  ow : ∀ (i : Nat) (o : Ob), s[i]? = some (.ow o) → ∃ p, σ[i]? = some (some (.ref p)) ∧ OwAt K (Nn F s σ) H p o
  inj : ∀ (i j : Nat) (o o' : Ob) (p : Addr), s[i]? = some (.ow o) → s[j]? = some (.ow o') → σ[i]? = some (some (.ref p)) → σ[j]? = some (some (.ref p)) → i = j
  ap : ∀ b, Own s σ b → ¬ F b
  dom : ∀ b, F b → ∃ o, H b = some o ∧ notCode o
  tb : Tb K H
structure Fr (F N : NS) (H : Hp) (N' : NS) (H' : Hp) : Prop where
  keep : ∀ b, F b → H' b = H b
  imm : ∀ b o, ¬ N b → NT o → H b = some o → H' b = some o ∧ ¬ N' b
section
variable {K : PySem.W.Frag} {F N N1 N2 : NS} {s s1 s2 : S} {σ : L2.St} {H H' H1 H2 : Hp}
theorem Fr.le (f : Fr F N H N1 H1) : Le (Hid N H) (Hid N1 H1) := fun b o n e => by
  obtain ⟨a, e⟩ := hid_iff.mp e
  obtain ⟨c, d⟩ := f.imm b o a n e
  exact hid_iff.mpr ⟨d, c⟩
theorem Fr.refl : Fr F N H N H := ⟨fun _ _ => rfl, fun _ _ n _ e => ⟨e, n⟩⟩
theorem Fr.trans (a : Fr F N H N1 H1) (b : Fr F N1 H1 N2 H2) : Fr F N H N2 H2 :=
  ⟨fun c h => (b.keep c h).trans (a.keep c h), fun c o n t e => let ⟨e1, n1⟩ := a.imm c o n t e; b.imm c o n1 t e1⟩
theorem OwAt.there' {p : Addr} {o : Ob} (h : OwAt K N H p o) : ∃ u, H p = some u ∧ notCode u := by
  cases o with
  | lst ds => obtain ⟨vs, e, _⟩ := h; exact ⟨_, e, .lst⟩
  | dic kvs =>
    rcases h with ⟨ks, e, _⟩ | ⟨ks, e, _⟩
    · exact ⟨_, e, .dT⟩
    · exact ⟨_, e, .dK⟩
theorem OwAt.there {p : Addr} {o : Ob} (h : OwAt K N H p o) : ∃ u, H p = some u := let ⟨u, e, _⟩ := h.there'; ⟨u, e⟩
theorem OwAt.mono {p : Addr} {o : Ob} (h : OwAt K N H p o) (e : H1 p = H p) (l : Le (Hid N H) (Hid N1 H1)) : OwAt K N1 H1 p o := by
  cases o with
  | lst ds => obtain ⟨vs, e1, r⟩ := h; exact ⟨vs, e.trans e1, RpA.mono l _ _ r⟩
  | dic kvs =>
    rcases h with ⟨ks, e1, r⟩ | ⟨ks, e1, r⟩
    · exact .inl ⟨ks, e.trans e1, RpT.mono l _ _ r⟩
    · exact .inr ⟨ks, e.trans e1, RpK.mono l _ _ r⟩
theorem OwAt.rp {p : Addr} {o : Ob} (h : OwAt K N H p o) (l : Le (Hid N H) H1) (e : H1 p = H p) : Rp K H1 (.ref p) o.val := by
  cases o with
  | lst ds => obtain ⟨vs, e1, r⟩ := h; exact .lst (.inl (.inl (e.trans e1))) (RpA.mono l _ _ r)
  | dic kvs =>
    rcases h with ⟨ks, e1, r⟩ | ⟨ks, e1, r⟩
    · exact .dT (e.trans e1) (RpT.mono l _ _ r)
    · exact .dK (e.trans e1) (RpK.mono l _ _ r)
theorem StOk.own' (k : StOk K F s σ H) {b : Addr} (h : Own s σ b) : ∃ u, H b = some u ∧ notCode u := by
  obtain ⟨i, o, e1, e2⟩ := h
  obtain ⟨p, e3, q⟩ := k.ow i o e1
  rw [e2] at e3
  cases e3
  exact q.there'
theorem StOk.own (k : StOk K F s σ H) {b : Addr} (h : Own s σ b) : ∃ u, H b = some u := let ⟨u, e, _⟩ := k.own' h; ⟨u, e⟩
theorem StOk.nn' (k : StOk K F s σ H) {b : Addr} (h : Nn F s σ b) : ∃ u, H b = some u ∧ notCode u := h.elim (k.dom b) k.own'
theorem StOk.nn (k : StOk K F s σ H) {b : Addr} (h : Nn F s σ b) : ∃ u, H b = some u := let ⟨u, e, _⟩ := k.nn' h; ⟨u, e⟩
theorem StOk.free (k : StOk K F s σ H) {b : Addr} (h : H b = none) : ¬ Nn F s σ b := fun z => by
  obtain ⟨u, e⟩ := k.nn z
  rw [h] at e; cases e
/-- the owned slots stand as they stood, what is not hidden too -/
theorem StOk.keep (k : StOk K F s σ H) (f : Fr F (Nn F s σ) H (Nn F s σ) H1) (o : ∀ b, Own s σ b → H1 b = H b) (t : Tb K H1) : StOk K F s σ H1 := by
  refine ⟨k.len, fun i d e => ?_, fun i u e => ?_, k.inj, k.ap, fun b h => ?_, t⟩
  · obtain ⟨v, e1, r⟩ := k.sh i d e
    exact ⟨v, e1, Rp.mono f.le _ _ r⟩
  · obtain ⟨p, e1, q⟩ := k.ow i u e
    exact ⟨p, e1, q.mono (o p ⟨i, u, e, e1⟩) f.le⟩
  · rw [f.keep b h]; exact k.dom b h
/-- a new object that stands by itself -/
theorem fr_new {p : Addr} {o : HO} (hn : ∀ b, N b → ∃ u, H b = some u) (hF : ∀ b, F b → N b) (h : H p = none) : Fr F N H N (upd H p o) := by
  refine ⟨fun b hb => ?_, fun b u n _ e => ⟨?_, n⟩⟩
  · obtain ⟨u, e⟩ := hn b (hF b hb)
    rw [upd_ne (ne_of_none e h)]
  · rw [upd_ne (ne_of_none e h)]; exact e
theorem StOk.frNew (k : StOk K F s σ H) {p : Addr} {o : HO} (h : H p = none) : Fr F (Nn F s σ) H (Nn F s σ) (upd H p o) := fr_new (fun _ => k.nn) (fun _ => .inl) h
theorem StOk.new (k : StOk K F s σ H) {p : Addr} {o : HO} (h : H p = none) : StOk K F s σ (upd H p o) :=
  k.keep (k.frNew h) (fun b hb => by
    obtain ⟨u, e⟩ := k.own hb
    rw [upd_ne (ne_of_none e h)]) (k.tb.new h)
/-- .. that is kept for itself -/
theorem StOk.newOw (k : StOk K F s σ H) {p : Addr} {o : HO} (nc : notCode o) (h : H p = none) : StOk K (Ad F p) s σ (upd H p o) ∧ Fr F (Nn F s σ) H (Nn (Ad F p) s σ) (upd H p o) := by
  have hp : ¬ Nn F s σ p := k.free h
  have f : Fr F (Nn F s σ) H (Nn (Ad F p) s σ) (upd H p o) := by
    refine ⟨(k.frNew h).keep, fun b u n t e => ?_⟩
    have hb : b ≠ p := ne_of_none e h
    refine ⟨by rw [upd_ne hb]; exact e, fun z => ?_⟩
    rcases z with (z | z) | z
    · exact n (.inl z)
    · exact hb z
    · exact n (.inr z)
  refine ⟨⟨k.len, fun i d e => ?_, fun i u e => ?_, k.inj, fun b hb z => ?_, fun b z => ?_, k.tb.new h⟩, f⟩
  · obtain ⟨v, e1, r⟩ := k.sh i d e
    exact ⟨v, e1, Rp.mono f.le _ _ r⟩
  · obtain ⟨q, e1, r⟩ := k.ow i u e
    obtain ⟨w, e2⟩ := k.own ⟨i, u, e, e1⟩
    exact ⟨q, e1, r.mono (upd_ne (ne_of_none e2 h)) f.le⟩
  · rcases z with z | z
    · exact k.ap b hb z
    · rw [z] at hb; exact hp (.inr hb)
  · rcases z with z | z
    · obtain ⟨u, e, n⟩ := k.dom b z
      exact ⟨u, by rw [upd_ne (ne_of_none e h)]; exact e, n⟩
    · rw [z]; exact ⟨o, upd_same, nc⟩
/-- what was kept for itself is let go -/
theorem StOk.loose {p : Addr} (k : StOk K (Ad F p) s σ H) : StOk K F s σ H ∧ Le (Hid (Nn (Ad F p) s σ) H) (Hid (Nn F s σ) H) := by
  have l : Le (Hid (Nn (Ad F p) s σ) H) (Hid (Nn F s σ) H) := fun b o _ e => by
    obtain ⟨n, e⟩ := hid_iff.mp e
    exact hid_iff.mpr ⟨fun z => n (z.elim (fun z => .inl (.inl z)) .inr), e⟩
  refine ⟨⟨k.len, fun i d e => ?_, fun i u e => ?_, k.inj, fun b hb z => k.ap b hb (.inl z), fun b z => k.dom b (.inl z), k.tb⟩, l⟩
  · obtain ⟨v, e1, r⟩ := k.sh i d e
    exact ⟨v, e1, Rp.mono l _ _ r⟩
  · obtain ⟨q, e1, r⟩ := k.ow i u e
    exact ⟨q, e1, r.mono rfl l⟩
end

/-! ### what lies behind a run -/
section
variable (K : PySem.W.Frag) (F : NS) (s : S) (σ : L2.St) (H : Hp)
/-- data -/
structure AftD (d : D) (s' : S) (v : V) (H' : Hp) : Prop where
  ok : StOk K F s' σ H'
  fr : Fr F (Nn F s σ) H (Nn F s' σ) H'
  rp : Rp K (Hid (Nn F s' σ) H') v d
/-- an owned thing -/
structure AftW (o : Ob) (s' : S) (p : Addr) (H' : Hp) : Prop where
  ok : StOk K (Ad F p) s' σ H'
  fr : Fr F (Nn F s σ) H (Nn (Ad F p) s' σ) H'
  nf : ¬ F p
  at_ : OwAt K (Nn (Ad F p) s' σ) H' p o
def AftS (r : Sl) (s' : S) (v : V) (H' : Hp) : Prop := match r with
  | .un => False
  | .sh d => AftD K F s σ H d s' v H'
  | .ow o => ∃ p, v = .ref p ∧ AftW K F s σ H o s' p H'
def AftO (x : Op) (s' : S) (v : V) (H' : Hp) : Prop := match x with
  | .d d => AftD K F s σ H d s' v H'
  | .v i => s' = s ∧ H' = H ∧ σ[i]? = some (some v) ∧ ∃ o, s[i]? = some (.ow o)
end
section
variable {K : PySem.W.Frag} {F : NS} {s s1 s' : S} {σ : L2.St} {H H1 H' : Hp}
theorem AftW.aftD {o : Ob} {p : Addr} (h : AftW K F s σ H o s' p H') : AftD K F s σ H o.val s' (.ref p) H' := by
  obtain ⟨k, l⟩ := h.ok.loose
  refine ⟨k, ⟨h.fr.keep, fun b o n t e => ?_⟩, ?_⟩
  · obtain ⟨e1, n1⟩ := h.fr.imm b o n t e
    exact ⟨e1, fun z => n1 (z.elim (fun z => .inl (.inl z)) .inr)⟩
  · obtain ⟨u, e⟩ := h.at_.there
    have hp : ¬ Nn F s' σ p := fun z => by
      rcases z with z | z
      · exact h.nf z
      · exact h.ok.ap p z (.inr rfl)
    exact h.at_.rp l (by rw [e]; exact hid_iff.mpr ⟨hp, e⟩)
theorem AftS.data {r : Sl} {d : D} {v : V} (h : AftS K F s σ H r s' v H') (e : r.data = some d) : AftD K F s σ H d s' v H' := by
  cases r with
  | un => cases e
  | sh d' => cases e; exact h
  | ow o =>
    cases e
    obtain ⟨p, rfl, q⟩ := h
    exact q.aftD
/-- told from an earlier state -/
theorem AftD.back (f : Fr F (Nn F s σ) H (Nn F s1 σ) H1) {d : D} {v : V} (h : AftD K F s1 σ H1 d s' v H') : AftD K F s σ H d s' v H' := ⟨h.ok, f.trans h.fr, h.rp⟩
theorem AftW.back (f : Fr F (Nn F s σ) H (Nn F s1 σ) H1) {o : Ob} {p : Addr} (h : AftW K F s1 σ H1 o s' p H') : AftW K F s σ H o s' p H' := ⟨h.ok, f.trans h.fr, h.nf, h.at_⟩
theorem AftS.back (f : Fr F (Nn F s σ) H (Nn F s1 σ) H1) {r : Sl} {v : V} (h : AftS K F s1 σ H1 r s' v H') : AftS K F s σ H r s' v H' := by
  cases r with
  | un => exact h
  | sh d => exact AftD.back f h
  | ow o =>
    obtain ⟨p, e, q⟩ := h
    exact ⟨p, e, q.back f⟩
end
end Hg
set_option Elab.async false
set_option linter.all false
set_option maxRecDepth 100000
set_option maxHeartbeats 400000
/-! Expressions run as their terms say. -/
namespace Hg
open PySem PySem.Spec PyProof.Rows L2

/-- how an error shows: its class -/
def ErR (EC : Nat → Addr) (e : Er) (cls : Value) (d : Option Addr) : Prop := cls = .ref (EC e.cls) ∧ d = none
/-- a run's end at a state -/
def Wp {α : Type} (K : PySem.W.Frag) (EC : Nat → Addr) (W : WX) (F : NS) (s : S) (σ : L2.St) (H : Hp) (r : R α) (Φ : α → S → Prop) : Prop := match r with
  | .bad => False
  | .ok a s' => Φ a s'
  | .err e s' => ∀ (H' : Hp) (cls : Value) (d : Option Addr), StOk K F s' σ H' → Fr F (Nn F s σ) H (Nn F s' σ) H' → ErR EC e cls d → W cls d σ H'
section
variable {K : PySem.W.Frag} {EC : Nat → Addr} {W : WX} {F : NS} {s s1 : S} {σ : L2.St} {H H1 : Hp} {α β : Type}
theorem Wp.mono {r : R α} {Φ Φ' : α → S → Prop} (h : Wp K EC W F s σ H r Φ) (k : ∀ a s', Φ a s' → Φ' a s') : Wp K EC W F s σ H r Φ' := by
  cases r with
  | bad => exact h
  | ok a s' => exact k a s' h
  | err e s' => exact h
theorem Wp.bind {m : M α} {f : α → M β} {Φ : β → S → Prop} (h : Wp K EC W F s σ H ((m.bind f) s1) Φ) : Wp K EC W F s σ H (m s1) fun a s2 => Wp K EC W F s σ H (f a s2) Φ := by
  have e : (m.bind f) s1 = (m s1).bind fun a s' => f a s' := rfl
  rw [e] at h
  cases q : m s1 with
  | bad => rw [q] at h; exact h
  | ok a s' => rw [q] at h; exact h
  | err e s' => rw [q] at h; exact h
/-- told from a later state -/
theorem Wp.on {r : R α} {Φ : α → S → Prop} (f : Fr F (Nn F s σ) H (Nn F s1 σ) H1) (h : Wp K EC W F s σ H r Φ) : Wp K EC W F s1 σ H1 r Φ := by
  cases r with
  | bad => exact h
  | ok a s' => exact h
  | err e s' => exact fun H' cls d k g x => h H' cls d k (f.trans g) x
theorem Wp.lift {o : Option α} {Φ : α → S → Prop} (h : Wp K EC W F s σ H (lift o s1) Φ) : ∃ a, o = some a ∧ Φ a s1 := by
  cases o with
  | none => exact False.elim h
  | some a => exact ⟨a, rfl, h⟩
end

/-! ### readings -/
section
variable (K : PySem.W.Frag) (EC : Nat → Addr) (W : WX)
structure AftDs (F : NS) (s : S) (σ : L2.St) (H : Hp) (ds : List D) (s' : S) (vs : List V) (H' : Hp) : Prop where
  ok : StOk K F s' σ H'
  fr : Fr F (Nn F s σ) H (Nn F s' σ) H'
  rp : RpA K (Hid (Nn F s' σ) H') vs ds
structure AftB (F : NS) (s : S) (σ : L2.St) (H : Hp) (s' : S) (H' : Hp) : Prop where
  ok : StOk K F s' σ H'
  fr : Fr F (Nn F s σ) H (Nn F s' σ) H'
def tE (m : M Sl) : TE := fun σ H Q => ∃ F s, StOk K F s σ H ∧ Wp K EC W F s σ H (m s) fun r s' => ∀ v H', AftS K F s σ H r s' v H' → Q v H'
def tD (m : M D) : TE := fun σ H Q => ∃ F s, StOk K F s σ H ∧ Wp K EC W F s σ H (m s) fun r s' => ∀ v H', AftD K F s σ H r s' v H' → Q v H'
def tO (m : M Op) : TE := fun σ H Q => ∃ F s, StOk K F s σ H ∧ Wp K EC W F s σ H (m s) fun r s' => ∀ v H', AftO K F s σ H r s' v H' → Q v H'
def tDs (m : M (List D)) : TA := fun σ H Q => ∃ F s, StOk K F s σ H ∧ Wp K EC W F s σ H (m s) fun r s' => ∀ v H', AftDs K F s σ H r s' v H' → Q v H'
def tBo (m : M Bool) : TT := fun σ H Q => ∃ F s, StOk K F s σ H ∧ Wp K EC W F s σ H (m s) fun b s' => ∀ H', AftB K F s σ H s' H' → Q b H'
end
theorem peW {X : Cx} {e : Expr} {t t' : TE} (h : PE X e t) (w : ∀ σ H Q, t' σ H Q → t σ H Q) : PE X e t' := ⟨fun pins s σ H Q I q => h.run pins s σ H Q I (w σ H Q q)⟩
theorem ptW {X : Cx} {e : Expr} {t t' : TT} (h : PT X e t) (w : ∀ σ H Q, t' σ H Q → t σ H Q) : PT X e t' := ⟨fun pins s σ H Q I q => h.run pins s σ H Q I (w σ H Q q)⟩
theorem pwW {X : Cx} {e : Expr} {t t' : TT} (h : PW X e t) (w : ∀ σ H Q, t' σ H Q → t σ H Q) : PW X e t' := ⟨fun wh pins s σ H Q I q => h.run wh pins s σ H Q I (w σ H Q q)⟩
theorem paW {X : Cx} {e : List Expr} {t t' : TA} (h : PA X e t) (w : ∀ σ H Q, t' σ H Q → t σ H Q) : PA X e t' := ⟨fun pos pins s σ H Q I q => h.run pos pins s σ H Q I (w σ H Q q)⟩
section
variable {K : PySem.W.Frag} {EC : Nat → Addr} {W : WX} {F N : NS} {s s1 s' : S} {σ : L2.St} {H H1 H' : Hp} {Q : VK}
theorem StOk.get {K : PySem.W.Frag} (k : StOk K F s σ H) {i : Nat} {d : D} (e : s[i]? = some (.sh d)) : ∃ v, σ[i]? = some (some v) ∧ AftD K F s σ H d s v H := by
  obtain ⟨v, e1, r⟩ := k.sh i d e
  exact ⟨v, e1, k, Fr.refl, r⟩
theorem get_lt {s : S} {i : Nat} {x : Sl} (e : s[i]? = some x) : i < s.length := (List.getElem?_eq_some_iff.mp e).1
/-- an owned slot's content is let go: data from then on -/
theorem StOk.share (k : StOk K F s σ H) {i : Nat} {o : Ob} {p : Addr} (e : s[i]? = some (.ow o)) (ep : σ[i]? = some (some (.ref p))) : AftD K F s σ H o.val (s.set i (.sh o.val)) (.ref p) H := by
  have hi := get_lt e
  have own' : ∀ b, Own (s.set i (.sh o.val)) σ b → Own s σ b ∧ b ≠ p := fun b ⟨j, u, e1, e2⟩ => by
    by_cases hj : j = i
    · subst hj
      rw [List.getElem?_set_self hi] at e1
      cases e1
    · rw [List.getElem?_set_ne (Ne.symm hj)] at e1
      refine ⟨⟨j, u, e1, e2⟩, fun z => ?_⟩
      rw [z] at e2
      exact hj (k.inj j i u o p e1 e e2 ep)
  have nn : ∀ b, Nn F (s.set i (.sh o.val)) σ b → Nn F s σ b := fun b z => z.imp id fun z => (own' b z).1
  have l : Le (Hid (Nn F s σ) H) (Hid (Nn F (s.set i (.sh o.val)) σ) H) := fun b u _ z => by
    obtain ⟨a, z⟩ := hid_iff.mp z
    exact hid_iff.mpr ⟨fun y => a (nn b y), z⟩
  obtain ⟨p', e3, q⟩ := k.ow i o e
  rw [ep] at e3
  cases e3
  have np : ¬ Nn F (s.set i (.sh o.val)) σ p := fun z => by
    rcases z with z | z
    · exact k.ap p ⟨i, o, e, ep⟩ z
    · exact (own' p z).2 rfl
  obtain ⟨u, hu⟩ := q.there
  have rp : Rp K (Hid (Nn F (s.set i (.sh o.val)) σ) H) (.ref p) o.val := q.rp l (by rw [hu]; exact hid_iff.mpr ⟨np, hu⟩)
  refine ⟨⟨by rw [List.length_set]; exact k.len, fun j d z => ?_, fun j u z => ?_, fun j j' u u' b z z' y y' => ?_, fun b z => k.ap b (own' b z).1, k.dom, k.tb⟩, ⟨fun _ _ => rfl, fun b u n _ z => ⟨z, fun y => n (nn b y)⟩⟩, rp⟩
  · by_cases hj : j = i
    · subst hj
      rw [List.getElem?_set_self hi] at z
      cases z
      exact ⟨_, ep, rp⟩
    · rw [List.getElem?_set_ne (Ne.symm hj)] at z
      obtain ⟨v, e1, r⟩ := k.sh j d z
      exact ⟨v, e1, Rp.mono l _ _ r⟩
  · by_cases hj : j = i
    · subst hj
      rw [List.getElem?_set_self hi] at z
      cases z
    · rw [List.getElem?_set_ne (Ne.symm hj)] at z
      obtain ⟨v, e1, r⟩ := k.ow j u z
      exact ⟨v, e1, r.mono rfl l⟩
  · by_cases hj : j = i
    · subst hj
      rw [List.getElem?_set_self hi] at z
      cases z
    · by_cases hj' : j' = i
      · subst hj'
        rw [List.getElem?_set_self hi] at z'
        cases z'
      · rw [List.getElem?_set_ne (Ne.symm hj)] at z
        rw [List.getElem?_set_ne (Ne.symm hj')] at z'
        exact k.inj j j' u u' b z z' y y'
/-- what is given by a rule that makes at most one object -/
def Give (K : PySem.W.Frag) (N : NS) (H : Hp) (r : Sl) (Q : VK) : Prop := match r with
  | .un => False
  | .sh d => (∀ v, Rp K (Hid N H) v d → Q v H) ∧ ∀ p o, H p = none → Rp K (Hid N (upd H p o)) (.ref p) d → Q (.ref p) (upd H p o)
  | .ow o => ∀ p u, H p = none → OwAt K (Ad N p) (upd H p u) p o → Q (.ref p) (upd H p u)
theorem nn_ad {p : Addr} : Nn (Ad F p) s σ = Ad (Nn F s σ) p := by
  funext b
  apply propext
  constructor
  · rintro ((z | z) | z)
    · exact .inl (.inl z)
    · exact .inr z
    · exact .inl (.inr z)
  · rintro ((z | z) | z)
    · exact .inl (.inl z)
    · exact .inr z
    · exact .inl (.inr z)
theorem give_of (k : StOk K F s σ H) {r : Sl} (h : ∀ v H', AftS K F s σ H r s v H' → Q v H') (hu : r ≠ .un) : Give K (Nn F s σ) H r Q := by
  cases r with
  | un => exact hu rfl
  | sh d => exact ⟨fun v q => h v H ⟨k, Fr.refl, q⟩, fun p o n q => h _ _ ⟨k.new n, k.frNew n, q⟩⟩
  | ow o =>
    intro p u n q
    have nc : notCode u := by
      obtain ⟨u', e, z⟩ := q.there'
      rw [upd_same] at e
      cases e
      exact z
    obtain ⟨k1, f1⟩ := k.newOw (o := u) nc n
    refine h _ _ ⟨p, rfl, k1, f1, fun z => k.free n (.inl z), ?_⟩
    rw [nn_ad]
    exact q
/-- an operand as it is read when it is used -/
def Rd_ (K : PySem.W.Frag) (N : NS) (H : Hp) (v : V) (d : D) : Prop := match d with
  | .list ds => ∃ p vs, v = .ref p ∧ RdK K H p vs ∧ RpA K (Hid N H) vs ds
  | .dict kvs => ∃ p, v = .ref p ∧ ((∃ ks, H p = some (.dT ks) ∧ RpT K (Hid N H) ks kvs) ∨ (∃ ks, H p = some (.dK ks) ∧ RpK K (Hid N H) ks kvs))
  | d => Rp K (Hid N H) v d
theorem Rp.rd {v : V} {d : D} (h : Rp K (Hid N H) v d) : Rd_ K N H v d := by
  cases d with
  | list ds =>
    cases h with
    | lst a b => exact ⟨_, _, rfl, hid_le.rdK a, b⟩
  | dict kvs =>
    cases h with
    | dT a b => exact ⟨_, rfl, .inl ⟨_, (hid_iff.mp a).2, b⟩⟩
    | dK a b => exact ⟨_, rfl, .inr ⟨_, (hid_iff.mp a).2, b⟩⟩
  | _ => exact h
theorem OwAt.rd {p : Addr} {o : Ob} (h : OwAt K N H p o) : Rd_ K N H (.ref p) o.val := by
  cases o with
  | lst ds => obtain ⟨vs, e, r⟩ := h; exact ⟨p, vs, rfl, .inl (.inl e), r⟩
  | dic kvs => exact ⟨p, rfl, h⟩
theorem Rd_.rp {v : V} {d : D} (h : Rd_ K N H v d) : Rp K H v d := by
  cases d with
  | list ds => obtain ⟨p, vs, rfl, a, b⟩ := h; exact .lst a (RpA.mono hid_le _ _ b)
  | dict kvs =>
    obtain ⟨p, rfl, ⟨ks, a, b⟩ | ⟨ks, a, b⟩⟩ := h
    · exact .dT a (RpT.mono hid_le _ _ b)
    · exact .dK a (RpK.mono hid_le _ _ b)
  | _ => exact Rp.mono hid_le _ _ h
/-- an operand at its use -/
theorem AftO.use {x : Op} {v : V} (a : AftO K F s σ H x s1 v H1) {s2 : S} {H2 : Hp} (k : StOk K F s2 σ H2) (f : Fr F (Nn F s1 σ) H1 (Nn F s2 σ) H2) {d : D} {s3 : S} (e : resO x s2 = .ok d s3) : s3 = s2 ∧ Rd_ K (Nn F s2 σ) H2 v d := by
  cases x with
  | d d' =>
    have e : R.ok d' s2 = .ok d s3 := e
    cases e
    exact ⟨rfl, (Rp.mono f.le _ _ (AftD.rp a)).rd⟩
  | v i =>
    obtain ⟨rfl, rfl, hv, o, ho⟩ := a
    have e : resV i s2 = .ok d s3 := e
    unfold resV at e
    split at e
    · rename_i o' q
      cases e
      obtain ⟨p, e1, z⟩ := k.ow i o' q
      rw [hv] at e1
      cases e1
      exact ⟨rfl, z.rd⟩
    · rename_i d' q
      cases e
      obtain ⟨v', e1, z⟩ := k.sh i d q
      rw [hv] at e1
      cases e1
      exact ⟨rfl, z.rd⟩
    · cases e
theorem AftO.ok {x : Op} {v : V} (k : StOk K F s σ H) (a : AftO K F s σ H x s1 v H1) : StOk K F s1 σ H1 ∧ Fr F (Nn F s σ) H (Nn F s1 σ) H1 := by
  cases x with
  | d d' => exact ⟨AftD.ok a, AftD.fr a⟩
  | v i =>
    obtain ⟨rfl, rfl, _⟩ := a
    exact ⟨k, Fr.refl⟩
/-- no error comes out of reading an operand -/
theorem Wp.res {α : Type} {x : Op} {f : D → M α} {Φ : α → S → Prop} (h : Wp K EC W F s σ H (((resO x).bind f) s1) Φ) : ∃ d, resO x s1 = .ok d s1 ∧ Wp K EC W F s σ H (f d s1) Φ := by
  have h := h.bind
  cases x with
  | d d' => exact ⟨d', rfl, h⟩
  | v i =>
    have e : resO (.v i) s1 = (match s1[i]? with
      | some (.ow o) => .ok o.val s1
      | some (.sh d) => .ok d s1
      | _ => .bad) := rfl
    rw [e] at h
    cases q : s1[i]? with
    | none => rw [q] at h; exact h.elim
    | some z =>
      rw [q] at h
      cases z with
      | un => exact h.elim
      | sh d => exact ⟨d, by rw [e, q], h⟩
      | ow o => exact ⟨o.val, by rw [e, q], h⟩
end

/-! ### from one form to another -/
section
variable {X : Cx} {EC : Nat → Addr} {W : WX} {e : Expr} {m : M Sl}
theorem pe_frz (h : PE X e (tE X.K EC W m)) : PE X e (tD X.K EC W (frz m)) := peW h fun σ H Q ⟨F, s, k, w⟩ => ⟨F, s, k, w.bind.mono fun r s1 q v H' a => by
  obtain ⟨d, e, q⟩ := q.lift
  exact q v H' (a.data e)⟩
theorem peO_of (h : PE X e (tE X.K EC W m)) : PE X e (tO X.K EC W ((frz m).bind fun d => M.pure (.d d))) := peW (pe_frz h) fun σ H Q ⟨F, s, k, w⟩ => ⟨F, s, k, w.bind.mono fun r s1 q v H' a => q v H' a⟩
theorem peO_var {i : Nat} {x : Str} {pos : Pos} (h : PE X (.Name x pos) (tVar i)) : PE X (.Name x pos) (tO X.K EC W (opnd (.var i) m)) := peW h fun σ H Q ⟨F, s, k, w⟩ => by
  have w : Wp X.K EC W F s σ H (match s[i]? with
    | some (.ow _) => R.ok (Op.v i) s
    | some (.sh d) => R.ok (Op.d d) s
    | _ => R.bad) _ := w
  cases q : s[i]? with
  | none => rw [q] at w; exact w.elim
  | some z =>
    rw [q] at w
    cases z with
    | un => exact w.elim
    | sh d =>
      obtain ⟨v, e1, a⟩ := k.get q
      exact ⟨v, e1, w v H a⟩
    | ow o =>
      obtain ⟨p, e1, a⟩ := k.ow i o q
      exact ⟨_, e1, w _ H ⟨rfl, rfl, e1, o, q⟩⟩
theorem peE_var {i : Nat} {x : Str} {pos : Pos} (h : PE X (.Name x pos) (tVar i)) : PE X (.Name x pos) (tE X.K EC W (varM i)) := peW h fun σ H Q ⟨F, s, k, w⟩ => by
  have w : Wp X.K EC W F s σ H (match s[i]? with
    | some (.sh d) => R.ok (Sl.sh d) s
    | some (.ow o) => R.ok (Sl.sh o.val) (s.set i (.sh o.val))
    | _ => R.bad) _ := w
  cases q : s[i]? with
  | none => rw [q] at w; exact w.elim
  | some z =>
    rw [q] at w
    cases z with
    | un => exact w.elim
    | sh d =>
      obtain ⟨v, e1, a⟩ := k.get q
      exact ⟨v, e1, w v H a⟩
    | ow o =>
      obtain ⟨p, e1, a⟩ := k.ow i o q
      exact ⟨_, e1, w _ H (k.share q e1)⟩
/-- a constant -/
theorem pe_con {v : V} {d : D} (h : PE X e (tC v)) (r : ∀ H, Rp X.K H v d) : PE X e (tE X.K EC W (M.pure (.sh d))) := peW h fun σ H Q ⟨F, s, k, w⟩ =>
  have w : ∀ v H', AftS X.K F s σ H (.sh d) s v H' → Q v H' := w
  w v H ⟨k, Fr.refl, r _⟩
end
end Hg
set_option Elab.async false
set_option linter.all false
set_option maxRecDepth 100000
set_option maxHeartbeats 400000
/-! Operations on data. -/
namespace Hg
open PySem PySem.Spec PyProof.Rows L2
abbrev Dm (N : NS) (H : Hp) : Prop := ∀ b, N b → ∃ u, H b = some u
section
variable {K : PySem.W.Frag} {N : NS} {H : Hp} {Q : VK}
theorem Dm.free (h : Dm N H) {p : Addr} (e : H p = none) : ¬ N p := fun z => by
  obtain ⟨u, q⟩ := h p z
  rw [e] at q; cases q
theorem Dm.leNew (h : Dm N H) {p : Addr} {o : HO} (e : H p = none) : Le (Hid N H) (Hid N (upd H p o)) := fun b u _ z => by
  obtain ⟨a, z⟩ := hid_iff.mp z
  exact hid_iff.mpr ⟨a, by rw [upd_ne (ne_of_none z e)]; exact z⟩
theorem Dm.leAd (h : Dm N H) {p : Addr} {o : HO} (e : H p = none) : Le (Hid N H) (Hid (Ad N p) (upd H p o)) := fun b u _ z => by
  obtain ⟨a, z⟩ := hid_iff.mp z
  have n : b ≠ p := ne_of_none z e
  exact hid_iff.mpr ⟨fun y => y.elim a n, by rw [upd_ne n]; exact z⟩
/-- a new tuple, a new list -/
theorem Dm.tup (h : Dm N H) {p : Addr} {vs : List V} {ds : List D} (e : H p = none) (r : RpA K (Hid N H) vs ds) : Rp K (Hid N (upd H p (.tup vs))) (.ref p) (.tuple ds) :=
  .tup (SqT.of (hid_iff.mpr ⟨h.free e, upd_same⟩)) (RpA.mono (h.leNew e) _ _ r)
theorem Dm.lst (h : Dm N H) {p : Addr} {vs : List V} {ds : List D} (e : H p = none) (r : RpA K (Hid N H) vs ds) : OwAt K (Ad N p) (upd H p (.lst vs)) p (.lst ds) :=
  ⟨vs, upd_same, RpA.mono (h.leAd e) _ _ r⟩
theorem Give.int {i : Int} (g : Give K N H (.sh (.int i)) Q) : Q (.int i) H := g.1 _ (.int i)
theorem Give.bl {b : Bool} (g : Give K N H (.sh (.bool b)) Q) : Q (.bl b) H := g.1 _ (.bl b)
end
theorem okMul_ok {i j : Int} (h : okMul i j = true) : CMulW i j := by
  unfold okMul at h
  unfold CMulW
  exact of_decide_eq_true h
section
variable {X : Cx}
theorem op_fdivA : OpR X (binaryOp .FloorDiv) (rI (fun _ j => j ≠ 0 ∧ j.natAbs.log2 < 9000) fun i j => .int (i.fdiv j)) := opI fun _ _ _ _ _ _ _ c q => floordiv_int c.1 q (.inl (PyProof.noPylong_of_log2 c.2))
theorem op_catL : OpR X (binaryOp .Add) (fun x y H Q => ∃ l b xs zs, x = .ref l ∧ y = .ref b ∧ RdK X.K H l xs ∧ RdK X.K H b zs ∧ xs.length + zs.length ≤ sizeLine ∧ ∀ p, H p = none → Q (.ref p) (upd H p (.lst (xs ++ zs)))) := by
  rintro pins s σ H x y v u Q I rx ry ⟨l, b, xs, zs, rfl, rfl, h1, h2, hz, q⟩
  cases rx
  cases ry
  obtain ⟨_, as, n, ra, ea⟩ := h1.obj I.kIn I.hok
  obtain ⟨_, bs, m, rb, eb⟩ := h2.obj I.kIn I.hok
  have la := ra.length
  have lb := rb.length
  refine PySem.P.add_list ea eb ?_ (by rw [List.size_toArray, List.size_toArray]; omega)
  rw [show as.toArray ++ bs.toArray = (as ++ bs).toArray by simp]
  exact ⟨.ref _, _, I.lnew (t' := s.toks) (ra.append rb) (by rw [List.length_append]; omega), rfl, q _ I.fresh⟩
theorem op_repL : OpR X (binaryOp .Mult) (fun x y H Q => ∃ l k xs, x = .ref l ∧ y = .int k ∧ RdK X.K H l xs ∧ -(2 ^ 63) ≤ k ∧ k < 2 ^ 63 ∧ xs.length * k.toNat ≤ sizeLine ∧
    ∀ p, H p = none → Q (.ref p) (upd H p (.lst (List.replicate k.toNat xs).flatten))) := by
  rintro pins s σ H x y v u Q I rx ry ⟨l, k, xs, rfl, rfl, hl, k1, k2, hz, q⟩
  cases rx
  obtain ⟨t, rfl⟩ := ry
  obtain ⟨_, as, n, ra, ea⟩ := hl.obj I.kIn I.hok
  have la := ra.length
  have small : as.toArray.size * k.toNat ≤ sizeLine := by rw [List.size_toArray, ← la]; exact hz
  have c1 : ¬ as.toArray.size * k.toNat > (2 ^ 63 - 1) / 8 := by
    have z : sizeLine ≤ (2 ^ 63 - 1) / 8 := by decide
    omega
  have c2 : ¬ (!Builtin.List.listFitsIndex k) = true := by rw [fitsIndex_both k1 k2]; decide
  have c3 : ¬ Builtin.List.listTooLong (as.toArray.size * k.toNat) = true := by rw [notLongL small]; decide
  have rep : ∀ m : Nat, List.foldl (fun a b => a ++ b) #[] (List.replicate m as.toArray) = (List.replicate m as).flatten.toArray := fun m => by
    have z := foldl_rep as m []
    rwa [List.nil_append] at z
  have all : List.foldl (fun a b => a ++ b) #[] (List.replicate (if as.toArray.isEmpty = true then 0 else k.toNat) as.toArray) = (List.replicate k.toNat as).flatten.toArray := by
    rw [rep]
    cases as with
    | nil => simp
    | cons a r => simp
  refine wpAny_binaryOp_repeat_ref (T := "list") (U := "int") (by decide) ⟨_, ea, rfl⟩ (fun z => typeIs_int z k t) noFill_list_mul F.fills_int_mul F.slot_int_rmul repeat_list F.slot_int_index.lookup ?_
  refine call_meets F.slot_int_rmul (typeIs_int s k t) F.entry_int_rmul (F.args_int_rmul_2 _ _) (int___rmul___int_list k t l as.toArray n) ⟨ea, rfl, ⟨_, ea, rfl⟩, ?_⟩
  refine call_meets F.slot_list_mul ⟨_, ea, rfl⟩ F.entry_list_mul (F.args_list_mul_2 _ _) (AutoListH.list___mul___list_int_3 l as.toArray n k t c2 c1 c3) ⟨ea, ?_⟩
  rw [all]
  exact ⟨.ref _, _, I.lnew (t' := s.toks) (ra.rep k.toNat) (by rw [PyProof.Rows.lm_len_rep_flat, Nat.mul_comm]; exact hz), rfl, q _ I.fresh⟩
/-- a two-place operation on data -/
def rBin (K : PySem.W.Frag) (f : D → D → Option Sl) : R2 := fun x y H Q => ∃ N d e r, Dm N H ∧ Rd_ K N H x d ∧ Rd_ K N H y e ∧ f d e = some r ∧ Give K N H r Q
theorem bin_ok (op : Operator) : OpR X (binaryOp op) (rBin X.K (binD op)) := by
  rintro pins s σ H x y v u Q I rx ry ⟨N, d, e, r, hN, h1, h2, hf, g⟩
  unfold binD at hf
  split at hf
  · cases hf; cases h1; cases h2
    exact op_add pins s σ H _ _ v u Q I rx ry ⟨_, _, rfl, rfl, g.int⟩
  · cases hf; cases h1; cases h2
    exact op_sub pins s σ H _ _ v u Q I rx ry ⟨_, _, rfl, rfl, g.int⟩
  · split at hf
    · rename_i c
      cases hf; cases h1; cases h2
      exact op_mulW pins s σ H _ _ v u Q I rx ry ⟨_, _, rfl, rfl, okMul_ok c, g.int⟩
    · cases hf
  · split at hf
    · rename_i c
      cases hf; cases h1; cases h2
      obtain ⟨c1, c2⟩ := Bool.and_eq_true_iff.mp c
      exact op_fdivA pins s σ H _ _ v u Q I rx ry ⟨_, _, rfl, rfl, ⟨of_decide_eq_true c1, of_decide_eq_true c2⟩, g.int⟩
    · cases hf
  · split at hf
    · cases hf
    · rename_i c
      cases hf; cases h1; cases h2
      exact op_modN pins s σ H _ _ v u Q I rx ry ⟨_, _, rfl, rfl, c, g.int⟩
  · split at hf
    · rename_i c
      cases hf; cases h1; cases h2
      obtain ⟨c1, c3⟩ := Bool.and_eq_true_iff.mp c
      obtain ⟨c1, c2⟩ := Bool.and_eq_true_iff.mp c1
      exact op_pow pins s σ H _ _ v u Q I rx ry ⟨_, _, rfl, rfl, ⟨of_decide_eq_true c1, of_decide_eq_true c2, of_decide_eq_true c3⟩, g.int⟩
    · cases hf
  · split at hf
    · rename_i c
      cases hf
      obtain ⟨p, vs, rfl, a1, b1⟩ := h1
      obtain ⟨q, ws, rfl, a2, b2⟩ := h2
      exact op_catL pins s σ H _ _ v u Q I rx ry ⟨_, _, _, _, rfl, rfl, a1, a2, by rw [b1.length, b2.length]; exact c, fun z hz => g z _ hz (hN.lst hz (b1.append b2))⟩
    · cases hf
  · split at hf
    · rename_i c
      cases hf
      cases h1 with
      | tup a1 b1 =>
        cases h2 with
        | tup a2 b2 =>
          refine op_catA pins s σ H _ _ v u Q I rx ry ⟨_, _, _, _, rfl, rfl, hid_le.sqT a1, hid_le.sqT a2, by rw [b1.length, b2.length]; exact c, fun z => ?_, fun z z2 => ?_, fun z z2 p hp => ?_⟩
          · subst z
            cases b1
            exact g.1 _ (.tup a2 b2)
          · subst z2
            cases b2
            rw [List.append_nil] at g
            exact g.1 _ (.tup a1 b1)
          · exact g.2 p _ hp (hN.tup hp (b1.append b2))
    · cases hf
  · split at hf
    · rename_i c
      cases hf
      obtain ⟨c1, c2, c3⟩ := c
      obtain ⟨p, vs, rfl, a1, b1⟩ := h1
      cases h2
      exact op_repL pins s σ H _ _ v u Q I rx ry ⟨_, _, _, rfl, rfl, a1, by omega, c2, by rw [b1.length]; exact c3, fun z hz => g z _ hz (hN.lst hz (b1.rep _))⟩
    · cases hf
  · cases hf

/-! ### comparisons -/
theorem Rd_.shape {K : PySem.W.Frag} {N : NS} {H : Hp} {v : V} {d : D} (h : Rd_ K N H v d) (c : SeqAt.shaped d = true) : Dp K H v d := Rp.dp d v h.rp (SeqAt.canLay_of_shaped c)
def rCmp (K : PySem.W.Frag) (f : D → D → Option Bool) : R2 := fun x y H Q => ∃ N d e k, Rd_ K N H x d ∧ Rd_ K N H y e ∧ f d e = some k ∧ Q (.bl k) H
theorem eqD_some {x y : D} {k : Bool} (h : eqD x y = some k) : SeqAt.shaped x = true ∧ SeqAt.shaped y = true ∧ k = PyData.eqv x y := by
  unfold eqD at h
  split at h
  · rename_i c
    cases h
    exact ⟨(Bool.and_eq_true_iff.mp c).1, (Bool.and_eq_true_iff.mp c).2, rfl⟩
  · cases h
theorem Rp.isN {K : PySem.W.Frag} {H : Hp} {v : V} {d : D} (h : Rp K H v d) : decide (v = .non) = isNo d := by
  cases h <;> first | rfl | exact decide_eq_false (fun z => nomatch z)
theorem room_in_tup {A : Around} {d : PyData} {ds : List PyData} (h : SeqAt.shaped d = true) (_ : SeqAt.shaped (.tuple ds) = true) (hu : A.units + 65 < cLine) : A.units + 1 + min (PyData.depthAll ds) d.depth < cLine := by
  have h1 := SeqAt.depth_of_shaped h
  have h2 : min (PyData.depthAll ds) d.depth ≤ d.depth := Nat.min_le_right _ _
  omega
theorem cmp_ok (hu : X.A.units + 65 < cLine) (op : CmpOp) : OpR X (compareOp op) (rCmp X.K (cmpD op)) := by
  rintro pins s σ H x y v u Q I rx ry ⟨N, d, e, k, h1, h2, hf, q⟩
  unfold cmpD at hf
  split at hf
  · obtain ⟨c1, c2, rfl⟩ := eqD_some hf
    exact op_eqD (by omega) pins s σ H _ _ v u Q I rx ry ⟨_, _, h1.shape c1, h2.shape c2, c1, c2, q⟩
  · obtain ⟨z, hz, rfl⟩ := Option.map_eq_some_iff.mp hf
    obtain ⟨c1, c2, rfl⟩ := eqD_some hz
    exact op_neD (by omega) pins s σ H _ _ v u Q I rx ry ⟨_, _, h1.shape c1, h2.shape c2, c1, c2, q⟩
  · cases hf; cases h1; cases h2
    exact op_lt pins s σ H _ _ v u Q I rx ry ⟨_, _, rfl, rfl, q⟩
  · cases hf; cases h1; cases h2
    exact op_le pins s σ H _ _ v u Q I rx ry ⟨_, _, rfl, rfl, q⟩
  · cases hf; cases h1; cases h2
    exact op_gt pins s σ H _ _ v u Q I rx ry ⟨_, _, rfl, rfl, q⟩
  · cases hf; cases h1; cases h2
    exact op_ge pins s σ H _ _ v u Q I rx ry ⟨_, _, rfl, rfl, q⟩
  · cases hf; cases h2
    exact op_isN pins s σ H _ _ v u Q I rx ry ⟨rfl, by rw [h1.rp.isN]; exact q⟩
  · cases hf; cases h2
    exact op_notN pins s σ H _ _ v u Q I rx ry ⟨rfl, by rw [h1.rp.isN]; exact q⟩
  · cases hf; cases h1; cases h2
    exact op_isBl pins s σ H _ _ v u Q I rx ry ⟨_, _, rfl, rfl, q⟩
  · cases hf; cases h1; cases h2
    exact op_notBl pins s σ H _ _ v u Q I rx ry ⟨_, _, rfl, rfl, q⟩
  · split at hf
    · rename_i c
      cases hf
      obtain ⟨c1, c2⟩ := Bool.and_eq_true_iff.mp c
      exact op_inD hu pins s σ H _ _ v u Q I rx ry ⟨_, _, h1.shape c1, h2.shape c2, c1, c2, q⟩
    · cases hf
  · split at hf
    · rename_i c
      cases hf
      obtain ⟨c1, c2⟩ := Bool.and_eq_true_iff.mp c
      exact op_notInD hu pins s σ H _ _ v u Q I rx ry ⟨_, _, h1.shape c1, h2.shape c2, c1, c2, q⟩
    · cases hf
  · split at hf
    · rename_i c
      cases hf
      obtain ⟨c1, c2⟩ := Bool.and_eq_true_iff.mp c
      obtain ⟨as, r1⟩ := Dp.reads I _ _ v (h1.shape c1) rx
      obtain ⟨bs, r2⟩ := Dp.reads I _ _ u (h2.shape c2) ry
      exact SeqAt.in_tuple_reads r2 r1 (SeqAt.canLay_of_shaped c2) (SeqAt.canLay_of_shaped c1) (room_in_tup c1 c2 hu) ⟨.bl _, H, I, rfl, q⟩
    · cases hf
  · split at hf
    · rename_i c
      cases hf
      obtain ⟨c1, c2⟩ := Bool.and_eq_true_iff.mp c
      obtain ⟨as, r1⟩ := Dp.reads I _ _ v (h1.shape c1) rx
      obtain ⟨bs, r2⟩ := Dp.reads I _ _ u (h2.shape c2) ry
      exact SeqAt.notIn_tuple_reads r2 r1 (SeqAt.canLay_of_shaped c2) (SeqAt.canLay_of_shaped c1) (room_in_tup c1 c2 hu) ⟨.bl _, H, I, rfl, q⟩
    · cases hf
  · cases hf

/-! ### items, slices -/
theorem atI_len {α β : Type} {xs : List α} {ys : List β} (e : xs.length = ys.length) {i : Int} {y : β} (h : atI ys i = some y) : ∃ j, ixN xs.length i = some j ∧ ys[j]? = some y := by
  unfold atI at h
  cases q : ixN ys.length i with
  | none => rw [q] at h; cases h
  | some j => rw [q] at h; exact ⟨j, by rw [e]; exact q, h⟩
theorem RpA.atI {K : PySem.W.Frag} {H : Hp} {vs : List V} {ds : List D} (h : RpA K H vs ds) {i : Int} {d : D} (e : L2.atI ds i = some d) : ∃ v, L2.atI vs i = some v ∧ Rp K H v d := by
  obtain ⟨j, e1, e2⟩ := atI_len h.length e
  obtain ⟨v, e3, r⟩ := h.get e2
  exact ⟨v, by unfold L2.atI; rw [e1]; exact e3, r⟩
def rIx (K : PySem.W.Frag) : R2 := fun x y H Q => ∃ N d e r, Rd_ K N H x d ∧ Rd_ K N H y e ∧ ixD d e = some r ∧ ∀ v, Rp K (Hid N H) v r → Q v H
theorem ix_ok : IxR X (rIx X.K) := by
  rintro value slice pins s σ H x y v u Q I rx ry ⟨N, d, e, r, h1, h2, hf, q⟩ hs
  unfold ixD at hf
  split at hf
  · cases h2
    obtain ⟨p, vs, rfl, a, b⟩ := h1
    obtain ⟨w', e1, r1⟩ := b.atI hf
    exact ix_list value slice pins s σ H _ _ v u Q I rx ry ⟨_, _, _, _, rfl, rfl, a.sqL, e1, q _ r1⟩ hs
  · cases h2
    cases h1 with
    | tup a b =>
      obtain ⟨w', e1, r1⟩ := b.atI hf
      exact ix_tup value slice pins s σ H _ _ v u Q I rx ry ⟨_, _, _, _, rfl, rfl, hid_le.sqT a, e1, q _ r1⟩ hs
  · cases hf
theorem RpA.cut {K : PySem.W.Frag} {H : Hp} {vs : List V} {ds : List D} (h : RpA K H vs ds) (lo hi : Option Int) : RpA K H (cutV vs lo hi) (cutD ds lo hi) := by
  unfold cutV cutD
  rw [h.length]
  exact (h.drop _).take _
def rSl (K : PySem.W.Frag) : V → Option Int → Option Int → Hp → VK → Prop := fun x lo hi H Q => ∃ N d r, Dm N H ∧ Rd_ K N H x d ∧ slD d lo hi = some r ∧ Give K N H r Q
theorem cut_all {α : Type} {xs : List α} {lo hi : Option Int} (h : HT.sIx xs.length 0 lo = 0 ∧ HT.sIx xs.length xs.length hi = xs.length) : cutD xs lo hi = xs := by
  unfold cutD
  rw [h.1, h.2, List.drop_zero, Nat.sub_zero, List.take_length]
theorem sl_ok : SlR X (rSl X.K) := by
  rintro pins s σ H x v vl vu lo hi sl Q I rx hs pl pu ⟨N, d, r, hN, h1, hf, g⟩
  unfold slD at hf
  split at hf
  · cases hf
    obtain ⟨p, vs, rfl, a, b⟩ := h1
    exact sl_list pins s σ H _ v vl vu lo hi sl Q I rx hs pl pu ⟨_, _, rfl, a.sqL, fun z hz => g z _ hz (hN.lst hz (b.cut lo hi))⟩
  · cases hf
    cases h1 with
    | tup a b =>
      refine sl_tupA pins s σ H _ v vl vu lo hi sl Q I rx hs pl pu ⟨_, _, rfl, hid_le.sqT a, fun z => ?_, fun _ p hp => g.2 p _ hp (hN.tup hp (b.cut lo hi))⟩
      rw [b.length] at z
      rw [cut_all z] at g
      exact g.1 _ (.tup a b)
  · cases hf

/-! ### built-in functions -/
inductive RdA (K : PySem.W.Frag) (N : NS) (H : Hp) : List V → List D → Prop
  | nil : RdA K N H [] []
  | cons {v : V} {vs : List V} {d : D} {ds : List D} : Rd_ K N H v d → RdA K N H vs ds → RdA K N H (v :: vs) (d :: ds)
def rBf (K : PySem.W.Frag) (b : Bf) : List V → Hp → VK → Prop := fun xs H Q => ∃ N ds r, Dm N H ∧ RdA K N H xs ds ∧ bfD b ds = some r ∧ Give K N H r Q
def Bf.name : Bf → Str
  | .len => "len"
  | .abs => "abs"
  | .max => "max"
  | .min => "min"
  | .int => "int"
  | .tuple => "tuple"
  | .list => "list"
  | .all => "all"
  | .str => "str"
def Bf.val : Bf → Value
  | .len => .builtin "len"
  | .abs => .builtin "abs"
  | .max => .builtin "max"
  | .min => .builtin "min"
  | .int => .type "int"
  | .tuple => .type "tuple"
  | .list => .type "list"
  | .all => .builtin "all"
  | .str => .type "str"
theorem bf_ok (hc : X.calm = true) (b : Bf) : CallR X b.val (rBf X.K b) := by
  rintro pins s σ H xs us Q I rx ⟨N, ds, r, hN, h, hf, g⟩
  unfold bfD at hf
  split at hf
  · cases hf
    cases h with
    | cons h1 t =>
      cases t
      obtain ⟨p, vs, rfl, a, b⟩ := h1
      exact call_len_seq pins s σ H _ us Q I rx ⟨_, _, rfl, .inl (a.sqL), by rw [b.length]; exact g.int⟩
  · cases hf
    cases h with
    | cons h1 t =>
      cases t
      cases h1 with
      | tup a b => exact call_len_seq pins s σ H _ us Q I rx ⟨_, _, rfl, .inr (hid_le.sqT a), by rw [b.length]; exact g.int⟩
  · cases hf
    cases h with
    | cons h1 t =>
      cases t
      cases h1
      exact call_abs pins s σ H _ us Q I rx ⟨_, rfl, g.int⟩
  · cases hf
    cases h with
    | cons h1 t =>
      cases t with
      | cons h2 t =>
        cases t; cases h1; cases h2
        exact call_max2 hc pins s σ H _ us Q I rx ⟨_, _, rfl, g.int⟩
  · cases hf
    cases h with
    | cons h1 t =>
      cases t with
      | cons h2 t =>
        cases t; cases h1; cases h2
        exact call_min2 hc pins s σ H _ us Q I rx ⟨_, _, rfl, g.int⟩
  · cases hf
    cases h with
    | cons h1 t =>
      cases t; cases h1
      exact call_int1 pins s σ H _ us Q I rx (.inl ⟨_, rfl, g.int⟩)
  · cases hf
    cases h with
    | cons h1 t =>
      cases t; cases h1
      exact call_int1 pins s σ H _ us Q I rx (.inr ⟨_, rfl, g.int⟩)
  · cases hf
    cases h with
    | cons h1 t =>
      cases t
      obtain ⟨p, vs, rfl, a, b⟩ := h1
      exact call_tuple_of pins s σ H _ us Q I rx ⟨_, _, rfl, .inl ⟨a.sqL, fun z hz => g.2 z _ hz (hN.tup hz b)⟩⟩
  · cases hf
    cases h with
    | cons h1 t =>
      cases t
      cases h1 with
      | tup a b => exact call_tuple_of pins s σ H _ us Q I rx ⟨_, _, rfl, .inr ⟨hid_le.sqT a, g.1 _ (.tup a b)⟩⟩
  · cases hf
    cases h with
    | cons h1 t =>
      cases t
      obtain ⟨p, vs, rfl, a, b⟩ := h1
      exact call_list_of pins s σ H _ us Q I rx ⟨_, _, rfl, .inl (a.sqL), fun z hz => g z _ hz (hN.lst hz b)⟩
  · cases hf
    cases h with
    | cons h1 t =>
      cases t
      cases h1 with
      | tup a b => exact call_list_of pins s σ H _ us Q I rx ⟨_, _, rfl, .inr (hid_le.sqT a), fun z hz => g z _ hz (hN.lst hz b)⟩
  · obtain ⟨k, hk, e⟩ := Option.map_eq_some_iff.mp hf
    cases e
    cases h with
    | cons h1 t =>
      cases t
      obtain ⟨p, vs, rfl, a, b⟩ := h1
      obtain ⟨bs, rfl, rfl⟩ := b.bools hk
      exact cr_all hc pins s σ H _ us Q I rx ⟨_, _, rfl, a.sqL, g.bl⟩
  · split at hf
    · rename_i hz
      cases hf
      cases h with
      | cons h1 t =>
        cases t
        cases h1
        exact call_str_int pins s σ H _ us Q I rx ⟨_, rfl, hz, g.1 _ (.str _)⟩
    · cases hf
  · cases hf

/-! ### isinstance -/
def Ty.name : Ty → String
  | .int => "int"
  | .bool => "bool"
  | .tuple => "tuple"
  | .list => "list"
  | .str => "str"
def Kn.name : Kn → String
  | .none => "NoneType"
  | .bool => "bool"
  | .int => "int"
  | .str => "str"
  | .list => "list"
  | .tuple => "tuple"
  | .dict => "dict"
abbrev kindD (d : D) : String := (knOf d).name
theorem Rd_.ty {K : PySem.W.Frag} {N : NS} {H : Hp} {v : V} {d : D} (h : Rd_ K N H v d) : TyX K H v (.type (kindD d)) := by
  have r := h.rp
  cases r with
  | non => exact .base .non
  | bl b => exact .base (.bl b)
  | int i => exact .base (.int i)
  | str x => exact .base (.str x)
  | lst a b =>
    rcases a with (a | ⟨o, a⟩) | ⟨its, e, _⟩
    · exact .base (.lst a)
    · exact .base (.frz a)
    · exact .kList e rfl
  | tup a b =>
    rcases a with (a | ⟨o, a⟩) | ⟨o, its, n, e, c, _⟩
    · exact .base (.tup a)
    · exact .fTuple a
    · exact .kTuple e c
  | dT a b => exact .base (.dT a)
  | dK a b => exact .base (.dK a)
theorem kit_ok (K : PySem.W.Frag) (d : D) (t : Ty) : PySem.W.kitOne K (.type (kindD d)) (.type t.name) = some (isTy d t) := by
  unfold isTy kindD
  generalize knOf d = k
  cases k <;> cases t <;> exact kit_ty (by decide +kernel)
theorem kitAny_ok (K : PySem.W.Frag) (d : D) : ∀ ts : List Ty, PySem.W.kitAny K (.type (kindD d)) (ts.map fun (t : Ty) => Value.type t.name) = some (ts.any (isTy d))
  | [] => rfl
  | t :: ts => by
    show (match PySem.W.kitOne K (.type (kindD d)) (.type t.name) with
      | some true => some true
      | some false => PySem.W.kitAny K (.type (kindD d)) (ts.map fun (t : Ty) => Value.type t.name)
      | none => none) = _
    rw [kit_ok, List.any_cons]
    cases isTy d t with
    | true => rfl
    | false => exact kitAny_ok K d ts
end
end Hg
set_option Elab.async false
set_option linter.all false
set_option maxRecDepth 100000
set_option maxHeartbeats 400000
/-! Does a piece of text say what a term says? -/
namespace Hg
open PySem PySem.Spec L2
/-- where a piece of text stands -/
structure Sx where
  sc : Scope
  N : List Str
  /-- names that the module does not bind -/
  free : List Str
  fn : Nat → Option Str
  exn : Nat → Option Str
  /-- cells that this block made -/
  own : Str → Bool
  /-- lambdas may be made here -/
  lm : Bool
  /-- defs that tell a lambda's refusal: the errors' numbers -/
  rf : Nat → Option (List Nat)
  /-- the module's tables, by text -/
  tbs : List (Str × List (Str × Int))
def okName (x : Str) : Bool := !(x == ("__debug__" : Str)) && !(x == ("__classdict__" : Str)) && !(x == ("__name__" : Str))
def visB (sc : Scope) (x : Str) : Bool := match sc.names.lookup x with
  | some .local => true
  | some .cell => true
  | some .free => true
  | _ => false
def glB (sc : Scope) (x : Str) : Bool := match sc.names.lookup x with
  | some .globalImplicit => true
  | _ => false
def Sx.var (x : Sx) (i : Nat) (n : Str) : Bool := decide (x.N[i]? = some n) && visB x.sc n && okName n
def Sx.glo (x : Sx) (n : Str) : Bool := glB x.sc n && okName n
def Sx.blt (x : Sx) (n : Str) : Bool := x.glo n && x.free.contains n
def Sx.tgt (x : Sx) (i : Nat) (n : Str) : Bool := decide (x.N[i]? = some n) && (match x.sc.names.lookup n with
  | some .local => true
  | some .cell => x.own n
  | _ => false) && okName n
def Sx.loc (x : Sx) (i : Nat) (n : Str) : Bool := decide (x.N[i]? = some n) && (match x.sc.names.lookup n with
  | some .local => true
  | _ => false) && okName n
def noSet : Expr → Bool
  | .Set .. => false
  | _ => true
def Sx.ty (x : Sx) (t : Ty) : Expr → Bool
  | .Name n _ => decide (n = Str.ofString t.name) && x.blt n
  | _ => false
def Sx.tys (x : Sx) : List Ty → List Expr → Bool
  | [], [] => true
  | t :: ts, e :: es => x.ty t e && x.tys ts es
  | _, _ => false
def Sx.tyE (x : Sx) (ts : List Ty) (e : Expr) : Bool := match ts, e with
  | [t], .Name n p => x.ty t (.Name n p)
  | _, .Tuple es _ _ => x.tys ts es
  | _, _ => false
def Sx.blk (x : Sx) (scope : Scope) : Sx := { x with sc := relS scope x.sc, lm := false, own := fun n => scope.names.lookup n == some .cell }
def Sx.lam (x : Sx) (scope : Scope) : Sx := { x with sc := scope, fn := fun _ => none, own := fun _ => false, lm := false }
def noPar : Arguments → Bool
  | ⟨[], [], none, [], [], none, []⟩ => true
  | _ => false
def ownP (N : List Str) (own : List Nat) : List (Str × Nat) := own.map fun i => (N.getD i Str.empty, i)
mutual
def chT (x : Sx) : Tg → Expr → Bool
  | .name i, e => match e with
    | .Name n _ => x.tgt i n
    | _ => false
  | .tup ts, e => match e with
    | .Tuple es _ _ => chTs x ts es
    | _ => false
def chTs (x : Sx) : Tgs → List Expr → Bool
  | .nil, es => match es with
    | [] => true
    | _ => false
  | .cons t ts, es => match es with
    | e :: es => chT x t e && chTs x ts es
    | _ => false
end
mutual
def tgIx : Tg → List Nat
  | .name i => [i]
  | .tup ts => tgsIx ts
def tgsIx : Tgs → List Nat
  | .nil => []
  | .cons t ts => tgIx t ++ tgsIx ts
end
def isName : Expr → Bool
  | .Name _ _ => true
  | _ => false
/-- a test of it is its value's truth -/
def stdT : Expr → Bool
  | .Call .. => true
  | .Subscript .. => true
  | .Name .. => true
  | _ => false
def isBlT : Ex → Bool
  | .bl true => true
  | _ => false
def keyC (y : Str) : Expr → Bool
  | .Constant (.str x) _ _ => decide (x = y)
  | _ => false
/-- keys of a display: texts -/
def chKs : List Str → List (Option Expr) → Bool
  | [], es => es.isEmpty
  | y :: ys, es => match es with
    | some e :: r => keyC y e && chKs ys r
    | _ => false
mutual
def chE (x : Sx) : Ex → Expr → Bool
  | .var i, e => match e with
    | .Name n _ => x.var i n
    | _ => false
  | .int i, e => match e with
    | .Constant (.int j) _ _ => decide (i = j)
    | _ => false
  | .str i, e => match e with
    | .Constant (.str j) _ _ => decide (i = j)
    | _ => false
  | .bl i, e => match e with
    | .Constant (.bool j) _ _ => decide (i = j)
    | _ => false
  | .non, e => match e with
    | .Constant .none _ _ => true
    | _ => false
  | .glo g, e => match e with
    | .Name n _ => decide (g = n) && x.glo n
    | _ => false
  | .bin op a b, e => match e with
    | .BinOp l o r _ => decide (op = o) && chE x a l && chE x b r
    | _ => false
  | .neg a, e => match e with
    | .UnaryOp o l _ => decide (o = .USub) && chE x a l
    | _ => false
  | .cmp op a b, e => match e with
    | .Compare l [o] [r] _ => decide (op = o) && chE x a l && chE x b r
    | _ => false
  | .chain o p a b c, e => match e with
    | .Compare l [o', p'] [m, r] _ => decide (o = o') && decide (p = p') && chE x a l && chE x b m && chE x c r
    | _ => false
  | .and es, e => match e with
    | .BoolOp o (l :: ls) _ => decide (o = .And) && chEs x es (l :: ls)
    | _ => false
  | .or es, e => match e with
    | .BoolOp o (l :: ls) _ => decide (o = .Or) && chEs x es (l :: ls)
    | _ => false
  | .orv a b, e => match e with
    | .BoolOp .Or [l, r] _ => stdT l && chE x a l && chE x b r
    | _ => false
  | .not a, e => match e with
    | .UnaryOp o l _ => decide (o = .Not) && chE x a l
    | _ => false
  | .ife c a b, e => match e with
    | .IfExp t l r _ => chE x c t && chE x a l && chE x b r
    | _ => false
  | .ix a i, e => match e with
    | .Subscript l r _ => chE x a l && chE x i r
    | _ => false
  | .dix a i, e => match e with
    | .Subscript l r _ => chE x a l && chE x i r
    | _ => false
  | .dget _ _ _, _ => false
  | .cget g tab a, e => match e with
    | .Call (.Attribute (.Name n _) m ap) [l] kw cp => kw.isEmpty && decide (m = "get") && decide (g = n) && x.glo n && x.tbs.contains (g, tab) && chE x a l && (ap.endLine == cp.line)
    | _ => false
  | .sl a lo hi, e => match e with
    | .Subscript l (.Slice l1 l2 l3 _) _ => l3.isNone && chE x a l && (match l1 with
      | none => isNon lo
      | some e1 => !isNon lo && chE x lo e1) && (match l2 with
      | none => isNon hi
      | some e2 => !isNon hi && chE x hi e2)
    | _ => false
  | .rev a, e => match e with
    | .Subscript l (.Slice none none (some (.UnaryOp .USub (.Constant (.int 1) _ _) _)) _) _ => chE x a l
    | _ => false
  | .tup es, e => match e with
    | .Tuple l _ _ => chEs x es l
    | _ => false
  | .lst es, e => match e with
    | .List l _ => chEs x es l
    | _ => false
  | .dic ks vs, e => match e with
    | .Dict keys l _ => (match keysE ks with
      | some ys => chKs ys keys
      | none => false) && chEs x vs l && decide (keys.length = l.length)
    | _ => false
  | .call f es, e => match e with
    | .Call (.Name n _) l kw _ => kw.isEmpty && decide (x.fn f = some n) && x.glo n && chEs x es l
    | _ => false
  | .bf b es, e => match e with
    | .Call (.Name n _) (l :: ls) kw _ => kw.isEmpty && decide (b.name = n) && x.blt n && chEs x es (l :: ls)
    | _ => false
  | .isi a ts, e => match e with
    | .Call (.Name n _) [l, r] kw _ => kw.isEmpty && decide (n = "isinstance") && x.blt n && chE x a l && x.tyE ts r && decide (ts.length ≤ 10)
    | _ => false
  | .lc src tg c el own, e => match e with
    | .ListComp el' [⟨t, it, ifs, k⟩] scope _ => decide (k = 0) && blkC x.N x.sc scope (ownP x.N own) && chS x src t it && chT (x.blk scope) tg t && ((tgIx tg).all fun i => own.contains i) && (match ifs with
      | [] => isBlT c
      | [c'] => chE (x.blk scope) c c'
      | _ => false) && chE (x.blk scope) el el'
    | _ => false
  | .lcl i tg c el own, e => match e with
    | .ListComp el' [⟨t, it, ifs, k⟩] scope _ => decide (k = 0) && blkC x.N x.sc scope (ownP x.N own) && (match it with
      | .Name n _ => x.var i n
      | _ => false) && chT (x.blk scope) tg t && ((tgIx tg).all fun i => own.contains i) && (match ifs with
      | [] => isBlT c
      | [c'] => chE (x.blk scope) c c'
      | _ => false) && chE (x.blk scope) el el'
    | _ => false
  | .pop i a, e => match e with
    | .Call (.Attribute (.Name n _) m ap) [l] kw cp => kw.isEmpty && decide (m = "pop") && x.var i n && chE x a l && (ap.endLine == cp.line)
    | _ => false
  | .app i a, e => match e with
    | .Call (.Attribute (.Name n _) m ap) [l] kw cp => kw.isEmpty && decide (m = "append") && x.var i n && chE x a l && (ap.endLine == cp.line)
    | _ => false
  | .ext i a, e => match e with
    | .Call (.Attribute (.Name n _) m ap) [l] kw cp => kw.isEmpty && decide (m = "extend") && x.var i n && chE x a l && (ap.endLine == cp.line)
    | _ => false
  | .ins i k a, e => match e with
    | .Call (.Attribute (.Name n _) m ap) [l1, l] kw cp => kw.isEmpty && decide (m = "insert") && x.var i n && chE x k l1 && chE x a l && (ap.endLine == cp.line)
    | _ => false
  | .rfd r g es ks, e => match e with
    | .Call (.Name n _) [.Lambda params (.Call (.Name m _) l kw2 _) scope _] kw _ => kw.isEmpty && x.lm && decide (x.fn r = some n) && x.glo n && decide (x.rf r = some ks) && noPar params && LamX.lamSB x.sc scope && kw2.isEmpty && decide (x.fn g = some m) && (x.lam scope).glo m && chEs (x.lam scope) es l
    | _ => false
def chEs (x : Sx) : Exs → List Expr → Bool
  | .nil, l => match l with
    | [] => true
    | _ => false
  | .cons a as, l => match l with
    | e :: es => chE x a e && chEs x as es
    | _ => false
def chS (x : Sx) : Src → Expr → Expr → Bool
  | .seq a, _, e => chE x a e
  | .rng as, _, e => match e with
    | .Call (.Name n _) l kw _ => kw.isEmpty && decide (n = "range") && x.blt n && chEs x as l && (l.length == 1 || l.length == 2)
    | _ => false
  | .zip a b, t, e => match t, e with
    | .Tuple _ _ _, .Call (.Name n _) [l, r] kw _ => kw.isEmpty && decide (n = "zip") && x.blt n && chE x a l && chE x b r
    | _, _ => false
  | .enu a, t, e => match t, e with
    | .Tuple _ _ _, .Call (.Name n _) [l] kw _ => kw.isEmpty && decide (n = "enumerate") && x.blt n && chE x a l
    | _, _ => false
  | .rvd a, _, e => match e with
    | .Call (.Name n _) [l] kw _ => kw.isEmpty && decide (n = "reversed") && x.blt n && chE x a l
    | _ => false
end
end Hg
set_option Elab.async false
set_option linter.all false
set_option maxRecDepth 100000
set_option maxHeartbeats 400000
/-! Calls: what a callee sees, what lies behind. -/
namespace Hg
open PySem PySem.Spec PyProof.Rows L2
inductive AgA (K : PySem.W.Frag) (N : NS) (H : Hp) (σ : L2.St) : List V → List Ag → Prop
  | nil : AgA K N H σ [] []
  | d {v : V} {vs : List V} {d : D} {as : List Ag} : Rp K (Hid N H) v d → AgA K N H σ vs as → AgA K N H σ (v :: vs) (.d d :: as)
  | io {v : V} {vs : List V} {i : Nat} {as : List Ag} : σ[i]? = some (some v) → AgA K N H σ vs as → AgA K N H σ (v :: vs) (.io i :: as)
structure AftA (K : PySem.W.Frag) (F : NS) (s : S) (σ : L2.St) (H : Hp) (as : List Ag) (s' : S) (vs : List V) (H' : Hp) : Prop where
  ok : StOk K F s' σ H'
  fr : Fr F (Nn F s σ) H (Nn F s' σ) H'
  rp : AgA K (Nn F s' σ) H' σ vs as
section
variable {K : PySem.W.Frag} {F N N1 : NS} {s s1 s' : S} {σ : L2.St} {H H1 H' : Hp}
theorem AgA.mono (l : Le (Hid N H) (Hid N1 H1)) : ∀ {vs : List V} {as : List Ag}, AgA K N H σ vs as → AgA K N1 H1 σ vs as
  | _, _, .nil => .nil
  | _, _, .d a b => .d (Rp.mono l _ _ a) (AgA.mono l b)
  | _, _, .io a b => .io a (AgA.mono l b)
theorem ioSl_some {i : Nat} {x : Sl} (h : ioSl s i = some x) : ∃ o, x = .ow o ∧ s[i]? = some (.ow o) := by
  unfold ioSl at h
  split at h
  · rename_i o q
    cases h
    exact ⟨o, rfl, q⟩
  · cases h
theorem argSls_cons {a : Ag} {r : List Ag} {l : List Sl} (h : argSls s (a :: r) = some l) : ∃ x xs, l = x :: xs ∧ argSl s a = some x ∧ argSls s r = some xs := by
  unfold argSls at h
  cases q : argSl s a with
  | none => rw [q] at h; cases h
  | some x =>
    rw [q] at h
    cases z : argSls s r with
    | none => rw [z] at h; cases h
    | some xs => rw [z] at h; cases h; exact ⟨x, xs, rfl, rfl, rfl⟩
/-- each place of the callee's -/
theorem arg_at : ∀ {vs : List V} {as : List Ag} {l : List Sl}, AgA K N H σ vs as → argSls s as = some l → l.length = vs.length ∧ ∀ (j : Nat) (x : Sl), l[j]? = some x →
    ∃ v, vs[j]? = some v ∧ ((∃ d, x = .sh d ∧ Rp K (Hid N H) v d) ∨ ∃ i o, x = .ow o ∧ as[j]? = some (.io i) ∧ s[i]? = some (.ow o) ∧ σ[i]? = some (some v) ∧ i ∈ ioIx as)
  | _, _, l, .nil, h => by
    have h : some [] = some l := h
    cases h
    exact ⟨rfl, fun j x e => by simp at e⟩
  | _, _, l, .d (v := v) (d := d) a b, h => by
    obtain ⟨x, xs, rfl, h1, h2⟩ := argSls_cons h
    cases (show some (Sl.sh d) = some x from h1)
    obtain ⟨l1, l2⟩ := arg_at b h2
    refine ⟨congrArg Nat.succ l1, fun j y e => ?_⟩
    cases j with
    | zero =>
      cases (show some (Sl.sh d) = some y from e)
      exact ⟨v, rfl, .inl ⟨d, rfl, a⟩⟩
    | succ j =>
      obtain ⟨w, e1, e2⟩ := l2 j y (by simpa using e)
      refine ⟨w, by simpa using e1, e2.imp id ?_⟩
      rintro ⟨i, o, z1, z2, z3, z4, z5⟩
      exact ⟨i, o, z1, by simpa using z2, z3, z4, z5⟩
  | _, _, l, .io (v := v) (i := i) a b, h => by
    obtain ⟨x, xs, rfl, h1, h2⟩ := argSls_cons h
    obtain ⟨o, rfl, ho⟩ := ioSl_some h1
    obtain ⟨l1, l2⟩ := arg_at b h2
    refine ⟨congrArg Nat.succ l1, fun j y e => ?_⟩
    cases j with
    | zero =>
      cases (show some (Sl.ow o) = some y from e)
      exact ⟨v, rfl, .inr ⟨i, o, rfl, rfl, ho, a, List.mem_cons_self⟩⟩
    | succ j =>
      obtain ⟨w, e1, e2⟩ := l2 j y (by simpa using e)
      refine ⟨w, by simpa using e1, e2.imp id ?_⟩
      rintro ⟨i', o', z1, z2, z3, z4, z5⟩
      exact ⟨i', o', z1, by simpa using z2, z3, z4, List.mem_cons_of_mem _ z5⟩
/-- each in-out slot is a place of the callee's -/
theorem io_at : ∀ {vs : List V} {as : List Ag} {l : List Sl} {i : Nat}, AgA K N H σ vs as → argSls s as = some l → i ∈ ioIx as → ∃ (j : Nat) (v : V) (o : Ob), as[j]? = some (.io i) ∧ l[j]? = some (.ow o) ∧ s[i]? = some (.ow o) ∧ vs[j]? = some v ∧ σ[i]? = some (some v)
  | _, _, _, _, .nil, _, hi => by cases hi
  | _, _, l, i, .d (v := v) (d := d) a b, h, hi => by
    obtain ⟨x, xs, rfl, h1, h2⟩ := argSls_cons h
    obtain ⟨j, w, o, e0, e1, e2, e3, e4⟩ := io_at b h2 hi
    exact ⟨j + 1, w, o, by simpa using e0, by simpa using e1, e2, by simpa using e3, e4⟩
  | _, _, l, i, .io (v := v) (i := k) a b, h, hi => by
    obtain ⟨x, xs, rfl, h1, h2⟩ := argSls_cons h
    obtain ⟨o, rfl, ho⟩ := ioSl_some h1
    rcases List.mem_cons.mp (show i ∈ k :: ioIx _ from hi) with e | hi
    · subst e
      exact ⟨0, v, o, rfl, rfl, ho, rfl, a⟩
    · obtain ⟨j, w, o, e0, e1, e2, e3, e4⟩ := io_at b h2 hi
      exact ⟨j + 1, w, o, by simpa using e0, by simpa using e1, e2, by simpa using e3, e4⟩
theorem ioIx_one : ∀ {as : List Ag} {j j' : Nat} {i : Nat}, (ioIx as).Nodup → as[j]? = some (.io i) → as[j']? = some (.io i) → j = j'
  | [], j, _, _, _, h, _ => by simp at h
  | .d d :: r, 0, _, _, _, h, _ => by simp at h
  | .d d :: r, j + 1, 0, _, _, _, h => by simp at h
  | .d d :: r, j + 1, j' + 1, i, nd, h, h' => congrArg Nat.succ (ioIx_one (as := r) nd (by simpa using h) (by simpa using h'))
  | .io k :: r, 0, 0, _, _, _, _ => rfl
  | .io k :: r, 0, j' + 1, i, nd, h, h' => by
    have e : k = i := by simpa using h
    subst e
    have m : ∀ {r : List Ag} {j : Nat}, r[j]? = some (.io k) → k ∈ ioIx r := by
      intro r
      induction r with
      | nil => intro j h; simp at h
      | cons a r ih =>
        intro j h
        cases j with
        | zero =>
          cases (show some a = some (Ag.io k) from h)
          exact List.mem_cons_self
        | succ j =>
          have z := ih (j := j) (by simpa using h)
          cases a with
          | d d => exact z
          | io i => exact List.mem_cons_of_mem _ z
    exact absurd (m (j := j') (by simpa using h')) (List.nodup_cons.mp nd).1
  | .io k :: r, j + 1, 0, i, nd, h, h' => (ioIx_one (as := .io k :: r) (j := 0) (j' := j + 1) nd h' h).symm
  | .io k :: r, j + 1, j' + 1, i, nd, h, h' => congrArg Nat.succ (ioIx_one (as := r) (List.nodup_cons.mp nd).2 (by simpa using h) (by simpa using h'))
/-- what is hidden from the callee: the slots that are not handed in -/
def Fc (F : NS) (s : S) (σ : L2.St) (ix : List Nat) : NS := fun b => F b ∨ (Own s σ b ∧ ¬ ∃ i, i ∈ ix ∧ σ[i]? = some (some (.ref b)))
theorem get_map {vs : List V} {j : Nat} {v : V} (h : vs[j]? = some v) : (vs.map some)[j]? = some (some v) := by rw [List.getElem?_map, h]; rfl
theorem of_get_map {vs : List V} {j : Nat} {v : V} (h : (vs.map some)[j]? = some (some v)) : vs[j]? = some v := by
  rw [List.getElem?_map] at h
  cases q : vs[j]? with
  | none => rw [q] at h; cases h
  | some w => rw [q] at h; cases h; rfl
theorem own_call {as : List Ag} {l : List Sl} {vs : List V} (a : AgA K N H σ vs as) (e : argSls s as = some l) (b : Addr) : Own l (vs.map some) b ↔ ∃ i, i ∈ ioIx as ∧ σ[i]? = some (some (.ref b)) := by
  constructor
  · rintro ⟨j, o, h1, h2⟩
    obtain ⟨v, e1, z⟩ := (arg_at a e).2 j _ h1
    rw [get_map e1] at h2
    cases h2
    rcases z with ⟨d, z, _⟩ | ⟨i, o', _, _, _, z4, z5⟩
    · cases z
    · exact ⟨i, z5, z4⟩
  · rintro ⟨i, hi, h⟩
    obtain ⟨j, v, o, _, e1, _, e3, e4⟩ := io_at a e hi
    rw [h] at e4
    cases e4
    exact ⟨j, o, e1, get_map e3⟩
theorem io_own {as : List Ag} {l : List Sl} {vs : List V} (a : AgA K N H σ vs as) (e : argSls s as = some l) {i : Nat} (hi : i ∈ ioIx as) {b : Addr} (h : σ[i]? = some (some (.ref b))) : Own s σ b := by
  obtain ⟨j, v, o, _, _, e2, _, e4⟩ := io_at a e hi
  exact ⟨i, o, e2, h⟩
theorem nn_call {as : List Ag} {l : List Sl} {vs : List V} (a : AgA K N H σ vs as) (e : argSls s as = some l) : Nn (Fc F s σ (ioIx as)) l (vs.map some) = Nn F s σ := by
  funext b
  apply propext
  constructor
  · rintro ((z | z) | z)
    · exact .inl z
    · exact .inr z.1
    · obtain ⟨i, hi, h⟩ := (own_call a e b).mp z
      exact .inr (io_own a e hi h)
  · rintro (z | z)
    · exact .inl (.inl z)
    · by_cases q : ∃ i, i ∈ ioIx as ∧ σ[i]? = some (some (.ref b))
      · exact .inr ((own_call a e b).mpr q)
      · exact .inl (.inr ⟨z, q⟩)
/-- the callee's slots -/
theorem call_in {as : List Ag} {l : List Sl} {vs : List V} (k : StOk K F s σ H) (a : AgA K (Nn F s σ) H σ vs as) (e : argSls s as = some l) (nd : (ioIx as).Nodup) : StOk K (Fc F s σ (ioIx as)) l (vs.map some) H := by
  obtain ⟨hl, at_⟩ := arg_at a e
  refine ⟨by rw [List.length_map]; exact hl, fun j d h => ?_, fun j o h => ?_, fun j j' o o' p h h' g g' => ?_, fun b h z => ?_, fun b z => ?_, k.tb⟩
  · obtain ⟨v, e1, z⟩ := at_ j _ h
    rcases z with ⟨d', z, r⟩ | ⟨i, o', z, _⟩
    · cases z
      exact ⟨v, get_map e1, by rw [nn_call a e]; exact r⟩
    · cases z
  · obtain ⟨v, e1, z⟩ := at_ j _ h
    rcases z with ⟨d', z, r⟩ | ⟨i, o', z, _, z3, z4, _⟩
    · cases z
    · cases z
      obtain ⟨p, q1, q2⟩ := k.ow i o z3
      rw [z4] at q1
      cases q1
      exact ⟨p, get_map e1, by rw [nn_call a e]; exact q2⟩
  · obtain ⟨v, e1, z⟩ := at_ j _ h
    obtain ⟨v', e1', z'⟩ := at_ j' _ h'
    rcases z with ⟨d', z, r⟩ | ⟨i, u, z, z2, z3, z4, _⟩
    · cases z
    · rcases z' with ⟨d', z', r⟩ | ⟨i', u', z', z2', z3', z4', _⟩
      · cases z'
      · have g1 := of_get_map g
        have g2 := of_get_map g'
        rw [e1] at g1
        rw [e1'] at g2
        cases g1
        cases g2
        have ei := k.inj i i' u u' p z3 z3' z4 z4'
        subst ei
        exact ioIx_one nd z2 z2'
  · rcases z with z | ⟨_, z⟩
    · obtain ⟨i, hi, h⟩ := (own_call a e b).mp h
      exact k.ap b (io_own a e hi h) z
    · exact z ((own_call a e b).mp h)
  · rcases z with z | ⟨z, _⟩
    · exact k.dom b z
    · exact k.own' z
theorem putOuts_len : ∀ (ix : List Nat) (outs : List Ob) (s : S), (putOuts s ix outs).length = s.length
  | [], _, _ => by unfold putOuts; rfl
  | _ :: _, [], _ => by unfold putOuts; rfl
  | i :: ix, o :: outs, s => by
    show (putOuts (s.set i (.ow o)) ix outs).length = _
    rw [putOuts_len ix outs, List.length_set]
theorem putOuts_ne : ∀ (ix : List Nat) (outs : List Ob) (s : S) {i : Nat}, i ∉ ix → (putOuts s ix outs)[i]? = s[i]?
  | [], _, _, _, _ => by unfold putOuts; rfl
  | _ :: _, [], _, _, _ => by unfold putOuts; rfl
  | j :: ix, o :: outs, s, i, h => by
    show (putOuts (s.set j (.ow o)) ix outs)[i]? = _
    rw [putOuts_ne ix outs _ (fun z => h (List.mem_cons_of_mem _ z)), List.getElem?_set_ne (fun z => h (by rw [z]; exact List.mem_cons_self))]
/-- place by place: what the callee leaves is what the caller has -/
theorem outs_at : ∀ {vs : List V} {as : List Ag} {l : List Sl} {outs : List Ob} {t : S}, AgA K N H σ vs as → argSls s as = some l → (ioIx as).Nodup → outs.length = (ioIx as).length → t.length = s.length →
    (∀ i, i ∈ ioIx as → ∃ (j : Nat) (o : Ob), as[j]? = some (.io i) ∧ (outS l outs)[j]? = some (.ow o) ∧ (putOuts t (ioIx as) outs)[i]? = some (.ow o))
  | _, _, l, outs, t, .nil, h, nd, hl, ht => fun i hi => by cases hi
  | _, _, l, outs, t, .d (v := v) (d := d) a b, h, nd, hl, ht => fun i hi => by
    obtain ⟨x, xs, rfl, h1, h2⟩ := argSls_cons h
    cases (show some (Sl.sh d) = some x from h1)
    obtain ⟨j, o, e1, e2, e3⟩ := outs_at (t := t) (outs := outs) b h2 nd hl ht i hi
    exact ⟨j + 1, o, by simpa using e1, by show (Sl.sh d :: outS xs outs)[j + 1]? = _; simpa using e2, e3⟩
  | _, _, l, outs, t, .io (v := v) (i := k) a b, h, nd, hl, ht => fun i hi => by
    obtain ⟨x, xs, rfl, h1, h2⟩ := argSls_cons h
    obtain ⟨o, rfl, ho⟩ := ioSl_some h1
    cases outs with
    | nil => cases hl
    | cons u outs =>
      obtain ⟨n1, n2⟩ := List.nodup_cons.mp nd
      rcases List.mem_cons.mp (show i ∈ k :: ioIx _ from hi) with e | hi
      · subst e
        refine ⟨0, u, rfl, rfl, ?_⟩
        show (putOuts (t.set i (.ow u)) (ioIx _) outs)[i]? = _
        rw [putOuts_ne _ _ _ n1, List.getElem?_set_self (by rw [ht]; exact get_lt ho)]
      · obtain ⟨j, o', e1, e2, e3⟩ := outs_at (t := t.set k (.ow u)) (outs := outs) b h2 n2 (Nat.succ.inj (show outs.length.succ = (ioIx _).length.succ from hl)) (by rw [List.length_set]; exact ht) i hi
        exact ⟨j + 1, o', by simpa using e1, by show (Sl.ow u :: outS xs outs)[j + 1]? = _; simpa using e2, e3⟩
theorem outS_len : ∀ (l : List Sl) (outs : List Ob), (outS l outs).length = l.length
  | [], _ => rfl
  | .ow o :: l, [] => by show (Sl.ow o :: outS l []).length = _; rw [List.length_cons, outS_len, List.length_cons]
  | .ow o :: l, u :: outs => by show (Sl.ow u :: outS l outs).length = _; rw [List.length_cons, outS_len, List.length_cons]
  | .un :: l, outs => by show (Sl.un :: outS l outs).length = _; rw [List.length_cons, outS_len, List.length_cons]
  | .sh d :: l, outs => by show (Sl.sh d :: outS l outs).length = _; rw [List.length_cons, outS_len, List.length_cons]
theorem outS_ow : ∀ {l : List Sl} {outs : List Ob} {j : Nat} {o : Ob}, (outS l outs)[j]? = some (.ow o) → ∃ o', l[j]? = some (.ow o')
  | [], _, _, _, h => by
    have h : ([] : List Sl)[_]? = _ := h
    simp at h
  | .ow u :: l, [], 0, _, _ => ⟨u, rfl⟩
  | .ow u :: l, [], j + 1, o, h => by
    obtain ⟨o', e⟩ := outS_ow (l := l) (outs := []) (j := j) (o := o) (by
      have h : (Sl.ow u :: outS l [])[j + 1]? = _ := h
      simpa using h)
    exact ⟨o', by simpa using e⟩
  | .ow u :: l, w :: outs, 0, _, _ => ⟨u, rfl⟩
  | .ow u :: l, w :: outs, j + 1, o, h => by
    obtain ⟨o', e⟩ := outS_ow (l := l) (outs := outs) (j := j) (o := o) (by
      have h : (Sl.ow w :: outS l outs)[j + 1]? = _ := h
      simpa using h)
    exact ⟨o', by simpa using e⟩
  | .un :: l, outs, 0, o, h => by
    have h : some Sl.un = some (Sl.ow o) := h
    cases h
  | .un :: l, outs, j + 1, o, h => by
    obtain ⟨o', e⟩ := outS_ow (l := l) (outs := outs) (j := j) (o := o) (by
      have h : (Sl.un :: outS l outs)[j + 1]? = _ := h
      simpa using h)
    exact ⟨o', by simpa using e⟩
  | .sh d :: l, outs, 0, o, h => by
    have h : some (Sl.sh d) = some (Sl.ow o) := h
    cases h
  | .sh d :: l, outs, j + 1, o, h => by
    obtain ⟨o', e⟩ := outS_ow (l := l) (outs := outs) (j := j) (o := o) (by
      have h : (Sl.sh d :: outS l outs)[j + 1]? = _ := h
      simpa using h)
    exact ⟨o', by simpa using e⟩
theorem own_out {as : List Ag} {l : List Sl} {vs : List V} {outs : List Ob} (a : AgA K N H σ vs as) (e : argSls s as = some l) (nd : (ioIx as).Nodup) (ho : outs.length = (ioIx as).length) (b : Addr) :
    Own (outS l outs) (vs.map some) b ↔ ∃ i, i ∈ ioIx as ∧ σ[i]? = some (some (.ref b)) := by
  rw [← own_call a e b]
  constructor
  · rintro ⟨j, o, h1, h2⟩
    obtain ⟨o', h⟩ := outS_ow h1
    exact ⟨j, o', h, h2⟩
  · rintro z
    obtain ⟨i, hi, h⟩ := (own_call a e b).mp z
    obtain ⟨j, o, e1, e2, _⟩ := outs_at (t := s) a e nd ho rfl i hi
    obtain ⟨j', v, o', f0, f1, _, f3, f4⟩ := io_at a e hi
    have ej := ioIx_one nd e1 f0
    subst ej
    rw [h] at f4
    cases f4
    exact ⟨j, o, e2, get_map f3⟩
theorem own_put {as : List Ag} {l : List Sl} {vs : List V} {outs : List Ob} (a : AgA K N H σ vs as) (e : argSls s as = some l) (nd : (ioIx as).Nodup) (ho : outs.length = (ioIx as).length) (b : Addr) : Own (putOuts s (ioIx as) outs) σ b ↔ Own s σ b := by
  constructor
  · rintro ⟨i, o, h1, h2⟩
    by_cases hi : i ∈ ioIx as
    · exact io_own a e hi h2
    · rw [putOuts_ne _ _ _ hi] at h1
      exact ⟨i, o, h1, h2⟩
  · rintro ⟨i, o, h1, h2⟩
    by_cases hi : i ∈ ioIx as
    · obtain ⟨j, o', _, _, e3⟩ := outs_at (t := s) a e nd ho rfl i hi
      exact ⟨i, o', e3, h2⟩
    · exact ⟨i, o, by rw [putOuts_ne _ _ _ hi]; exact h1, h2⟩
theorem nn_put {as : List Ag} {l : List Sl} {vs : List V} {outs : List Ob} (a : AgA K N H σ vs as) (e : argSls s as = some l) (nd : (ioIx as).Nodup) (ho : outs.length = (ioIx as).length) : Nn F (putOuts s (ioIx as) outs) σ = Nn F s σ := by
  funext b
  exact propext (or_congr Iff.rfl (own_put a e nd ho b))
/-- F': what is hidden besides F (a new owned thing, or nothing more) -/
theorem nn_out {as : List Ag} {l : List Sl} {vs : List V} {outs : List Ob} (a : AgA K N H σ vs as) (e : argSls s as = some l) (nd : (ioIx as).Nodup) (ho : outs.length = (ioIx as).length) :
    Nn (Fc F s σ (ioIx as)) (outS l outs) (vs.map some) = Nn F (putOuts s (ioIx as) outs) σ := by
  rw [nn_put a e nd ho, ← nn_call a e]
  funext b
  exact propext (or_congr Iff.rfl ((own_out a e nd ho b).trans (own_call a e b).symm))
/-- the caller's slots behind the call; P: a place more that is kept apart -/
theorem call_ok {G : NS} {as : List Ag} {l : List Sl} {vs : List V} {outs : List Ob} {Gc : NS} (k : StOk K F s σ H) (a : AgA K (Nn F s σ) H σ vs as) (e : argSls s as = some l) (nd : (ioIx as).Nodup) (ho : outs.length = (ioIx as).length)
    (hG : ∀ b, F b → G b) (hGc : ∀ b, Gc b ↔ G b ∨ (Own s σ b ∧ ¬ ∃ i, i ∈ ioIx as ∧ σ[i]? = some (some (.ref b)))) (hdis : ∀ b, Own s σ b → ¬ G b)
    (k' : StOk K Gc (outS l outs) (vs.map some) H') (f : Fr (Fc F s σ (ioIx as)) (Nn F s σ) H (Nn Gc (outS l outs) (vs.map some)) H') : StOk K G (putOuts s (ioIx as) outs) σ H' ∧ Nn Gc (outS l outs) (vs.map some) = Nn G (putOuts s (ioIx as) outs) σ := by
  have enn : Nn Gc (outS l outs) (vs.map some) = Nn G (putOuts s (ioIx as) outs) σ := by
    funext b
    apply propext
    constructor
    · rintro (z | z)
      · rcases (hGc b).mp z with z | ⟨z, _⟩
        · exact .inl z
        · exact .inr ((own_put a e nd ho b).mpr z)
      · obtain ⟨i, hi, h⟩ := (own_out a e nd ho b).mp z
        exact .inr ((own_put a e nd ho b).mpr (io_own a e hi h))
    · rintro (z | z)
      · exact .inl ((hGc b).mpr (.inl z))
      · have z := (own_put a e nd ho b).mp z
        by_cases q : ∃ i, i ∈ ioIx as ∧ σ[i]? = some (some (.ref b))
        · exact .inr ((own_out a e nd ho b).mpr q)
        · exact .inl ((hGc b).mpr (.inr ⟨z, q⟩))
  refine ⟨⟨by rw [putOuts_len]; exact k.len, fun i d h => ?_, fun i o h => ?_, fun i j o o' p h h' g g' => ?_, fun b h z => hdis b ((own_put a e nd ho b).mp h) z, fun b z => k'.dom b ((hGc b).mpr (.inl z)), k'.tb⟩, enn⟩
  · by_cases hi : i ∈ ioIx as
    · obtain ⟨j, o', _, _, e3⟩ := outs_at (t := s) a e nd ho rfl i hi
      rw [e3] at h
      cases h
    · rw [putOuts_ne _ _ _ hi] at h
      obtain ⟨v, e1, r⟩ := k.sh i d h
      refine ⟨v, e1, Rp.mono ?_ _ _ r⟩
      rw [← enn]
      exact f.le
  · by_cases hi : i ∈ ioIx as
    · obtain ⟨j, o', e1, e2, e3⟩ := outs_at (t := s) a e nd ho rfl i hi
      rw [e3] at h
      cases h
      obtain ⟨j', v, o2, f0, f1, _, f3, f4⟩ := io_at a e hi
      have ej := ioIx_one nd e1 f0
      subst ej
      obtain ⟨p, q1, q2⟩ := k'.ow j _ e2
      have q1 := of_get_map q1
      rw [f3] at q1
      cases q1
      exact ⟨p, f4, by rw [← enn]; exact q2⟩
    · rw [putOuts_ne _ _ _ hi] at h
      obtain ⟨p, q1, q2⟩ := k.ow i o h
      refine ⟨p, q1, q2.mono (f.keep p (.inr ⟨⟨i, o, h, q1⟩, ?_⟩)) (by rw [← enn]; exact f.le)⟩
      rintro ⟨i', hi', h'⟩
      obtain ⟨_, _, o', _, _, e2, _, _⟩ := io_at a e hi'
      have := k.inj i i' o o' p h e2 q1 h'
      subst this
      exact hi hi'
  · have own2 : ∀ {i : Nat} {o : Ob}, (putOuts s (ioIx as) outs)[i]? = some (.ow o) → ∃ u, s[i]? = some (.ow u) := fun {i o} h => by
      by_cases hi : i ∈ ioIx as
      · obtain ⟨_, _, u, _, _, e2, _, _⟩ := io_at a e hi
        exact ⟨u, e2⟩
      · rw [putOuts_ne _ _ _ hi] at h
        exact ⟨o, h⟩
    obtain ⟨u, hu⟩ := own2 h
    obtain ⟨u', hu'⟩ := own2 h'
    exact k.inj i j u u' p hu hu' g g'
theorem fr_call {as : List Ag} {l : List Sl} {vs : List V} {outs : List Ob} {Gc G : NS} (f : Fr (Fc F s σ (ioIx as)) (Nn F s σ) H (Nn Gc (outS l outs) (vs.map some)) H') (enn : Nn Gc (outS l outs) (vs.map some) = Nn G (putOuts s (ioIx as) outs) σ) :
    Fr F (Nn F s σ) H (Nn G (putOuts s (ioIx as) outs) σ) H' := by
  rw [enn] at f
  exact ⟨fun b z => f.keep b (.inl z), f.imm⟩
theorem call_out {as : List Ag} {l : List Sl} {vs : List V} {outs : List Ob} {r : Sl} {v : V} (k : StOk K F s σ H) (a : AgA K (Nn F s σ) H σ vs as) (e : argSls s as = some l) (nd : (ioIx as).Nodup) (ho : outs.length = (ioIx as).length)
    (h : AftS K (Fc F s σ (ioIx as)) l (vs.map some) H r (outS l outs) v H') : AftS K F s σ H r (putOuts s (ioIx as) outs) v H' := by
  have e0 : Nn (Fc F s σ (ioIx as)) l (vs.map some) = Nn F s σ := nn_call a e
  cases r with
  | un => exact h
  | sh d =>
    have f := AftD.fr h
    rw [e0] at f
    obtain ⟨k2, enn⟩ := call_ok (G := F) (Gc := Fc F s σ (ioIx as)) k a e nd ho (fun _ z => z) (fun b => Iff.rfl) k.ap (AftD.ok h) f
    exact ⟨k2, fr_call f enn, by rw [← enn]; exact AftD.rp h⟩
  | ow o =>
    obtain ⟨p, rfl, q⟩ := h
    have f := q.fr
    rw [e0] at f
    have hp : ¬ Fc F s σ (ioIx as) p := q.nf
    have npo : ¬ Own s σ p := fun z => by
      by_cases w : ∃ i, i ∈ ioIx as ∧ σ[i]? = some (some (.ref p))
      · exact q.ok.ap p ((own_out a e nd ho p).mpr w) (.inr rfl)
      · exact hp (.inr ⟨z, w⟩)
    obtain ⟨k2, enn⟩ := call_ok (G := Ad F p) (Gc := Ad (Fc F s σ (ioIx as)) p) k a e nd ho (fun _ z => .inl z) (fun b => by
      constructor
      · rintro ((z | z) | z)
        · exact .inl (.inl z)
        · exact .inr z
        · exact .inl (.inr z)
      · rintro ((z | z) | z)
        · exact .inl (.inl z)
        · exact .inr z
        · exact .inl (.inr z)) (fun b z w => w.elim (k.ap b z) (fun y => npo (y ▸ z))) q.ok f
    exact ⟨p, rfl, k2, fr_call f enn, fun z => hp (.inl z), by rw [← enn]; exact q.at_⟩
/-- a def's promise, by its run -/
def spF (K : PySem.W.Frag) (EC : Nat → Addr) (n : Nat) (run : List Sl → CR) : Sp := fun vs H Q E => ∃ F as, vs.length = n ∧ StOk K F as (vs.map some) H ∧
  Wp K EC (fun cls d _ H' => E cls d H') F as (vs.map some) H (runR run as) fun r s' => ∀ v H', AftS K F as (vs.map some) H r s' v H' → Q v H'
end
end Hg
set_option Elab.async false
set_option linter.all false
set_option maxRecDepth 100000
set_option maxHeartbeats 400000
/-! One rule a term. -/
namespace Hg
open PySem PySem.Spec PyProof.Rows L2
section
variable {X : Cx} {EC : Nat → Addr} {W : WX} {C : Cal} {e a b c : Expr} {es : List Expr} {m ma mb mc : M Sl} {pos : Pos} {ia ib : Ex}

/-! ### stars -/
def noStar : Expr → Bool
  | .Starred .. => false
  | _ => true
theorem star_cons (h : noStar e = true) (env : Env) : starEach (e :: es) env = (false, eval e env) :: starEach es env := by
  cases e <;> first | rfl | (cases h)
theorem star_all : ∀ (es : List Expr) (pos : Pos) (env : Env), es.all noStar = true → (backTo pos (starEach es env)).any (·.1) = false
  | [], _, _, _ => rfl
  | e :: es, pos, env, h => by
    rw [List.all_cons, Bool.and_eq_true] at h
    rw [star_cons h.1]
    have ih := star_all es pos env h.2
    show (false || (backTo pos (starEach es env)).any (·.1)) = false
    rw [ih] <;> rfl

/-! ### two operands -/
theorem E_bin (op : Operator) {oa ob : M Op} (ha : PE X a (tO X.K EC W oa)) (hb : PE X b (tO X.K EC W ob)) :
    PE X (.BinOp a op b pos) (tE X.K EC W (oa.bind fun x => ob.bind fun y => (resO x).bind fun d => (resO y).bind fun e => lift (binD op d e))) := peW (pe_op (bin_ok op) ha hb) fun σ H Q ⟨F, s, k, w⟩ =>
  ⟨F, s, k, w.bind.mono fun x s1 hx v H1 ax => by
    obtain ⟨k1, f1⟩ := ax.ok k
    refine ⟨F, s1, k1, ((hx.on f1).bind).mono fun y s2 hy u H2 ay => ?_⟩
    obtain ⟨k2, f2⟩ := ay.ok k1
    obtain ⟨d, e1, hy⟩ := (hy.on f2).res
    obtain ⟨d', e2, hy⟩ := hy.res
    obtain ⟨r, e3, hy⟩ := hy.lift
    refine ⟨Nn F s2 σ, d, d', r, fun _ => k2.nn, (ax.use k2 f2 e1).2, (ay.use k2 Fr.refl e2).2, e3, give_of k2 (fun v' H' z => hy v' H' (z.back (f1.trans f2))) ?_⟩
    rintro rfl
    revert e3
    unfold binD
    split <;> first | (split <;> exact fun z => nomatch z) | exact fun z => nomatch z⟩
theorem T_cmp (hu : X.A.units + 65 < cLine) (op : CmpOp) {oa ob : M Op} {σ : L2.St} {H : Hp} {Q : VK} (w : tE X.K EC W (oa.bind fun x => ob.bind fun y => (resO x).bind fun d => (resO y).bind fun e => lift ((cmpD op d e).map fun k => .sh (.bool k))) σ H Q) :
    tOp (rCmp X.K (cmpD op)) (tO X.K EC W oa) (tO X.K EC W ob) σ H Q := by
  obtain ⟨F, s, k, w⟩ := w
  refine ⟨F, s, k, w.bind.mono fun x s1 hx v H1 ax => ?_⟩
  obtain ⟨k1, f1⟩ := ax.ok k
  refine ⟨F, s1, k1, ((hx.on f1).bind).mono fun y s2 hy u H2 ay => ?_⟩
  obtain ⟨k2, f2⟩ := ay.ok k1
  obtain ⟨d, e1, hy⟩ := (hy.on f2).res
  obtain ⟨d', e2, hy⟩ := hy.res
  obtain ⟨r, e3, hy⟩ := hy.lift
  obtain ⟨q, e4, rfl⟩ := Option.map_eq_some_iff.mp e3
  exact ⟨Nn F s2 σ, d, d', q, (ax.use k2 f2 e1).2, (ay.use k2 Fr.refl e2).2, e4, hy _ _ ⟨k2, f1.trans f2, .bl q⟩⟩
/-- a test from a value -/
theorem tT_of {σ : L2.St} {H : Hp} {Q : Bool → Hp → Prop} (w : tBo X.K EC W (testM m) σ H Q) : tE X.K EC W m σ H fun x H' => ∃ k, x = .bl k ∧ Q k H' := by
  obtain ⟨F, s, k, w⟩ := w
  have w : Wp X.K EC W F s σ H (((frz m).bind fun d => match d with
    | .bool b => M.pure b
    | _ => bad) s) _ := w
  refine ⟨F, s, k, w.bind.bind.mono fun r s1 hr v H1 ar => ?_⟩
  obtain ⟨d, e, hr⟩ := hr.lift
  have ad := ar.data e
  cases d with
  | bool q =>
    have hr : ∀ H', AftB X.K F s σ H s1 H' → Q q H' := hr
    cases ad.rp
    exact ⟨q, rfl, hr H1 ⟨ad.ok, ad.fr⟩⟩
  | _ => exact hr.elim
theorem E_cmp (hu : X.A.units + 65 < cLine) (op : CmpOp) {oa ob : M Op} (ha : PE X a (tO X.K EC W oa)) (hb : PE X b (tO X.K EC W ob)) (hm : behindInMarks op b = false) :
    PE X (.Compare a [op] [b] pos) (tE X.K EC W (oa.bind fun x => ob.bind fun y => (resO x).bind fun d => (resO y).bind fun e => lift ((cmpD op d e).map fun k => .sh (.bool k)))) :=
  peW (pe_cmpR (cmp_ok hu op) ha hb hm) fun σ H Q w => T_cmp hu op w
theorem P_cmp (hu : X.A.units + 65 < cLine) (op : CmpOp) {oa ob : M Op} (ha : PE X a (tO X.K EC W oa)) (hb : PE X b (tO X.K EC W ob)) (hm : behindInMarks op b = false) :
    PT X (.Compare a [op] [b] pos) (tBo X.K EC W (testM (oa.bind fun x => ob.bind fun y => (resO x).bind fun d => (resO y).bind fun e => lift ((cmpD op d e).map fun k => .sh (.bool k))))) :=
  ptW (pt_cmpR (cmp_ok hu op) ha hb hm) fun σ H Q w => T_cmp hu op (tT_of w)
/-- a value as a test -/
theorem P_val (h : PE X e (tE X.K EC W m)) (he : ∀ whole, isTrue e X.env whole = (do let v ← whole; standAt e.pos; holding [v] (truthy v))) : PT X e (tBo X.K EC W (testM m)) :=
  ptW (pt_val h he) fun σ H Q w => tT_of w
/-- a test's value -/
theorem E_ofB {t : M Bool} {tt : TE} (h : PE X e tt) (w : ∀ σ H Q, (tBo X.K EC W t σ H fun b H' => Q (.bl b) H') → tt σ H Q) : PE X e (tE X.K EC W (t.bind bM)) := peW h fun σ H Q ⟨F, s, k, z⟩ => w σ H Q ⟨F, s, k, z.bind.mono fun b s1 hb H1 ab => by
  have hb : ∀ v H', AftS X.K F s σ H (.sh (.bool b)) s1 v H' → Q v H' := hb
  exact hb _ _ ⟨ab.ok, ab.fr, .bl b⟩⟩
theorem B_pure {σ : L2.St} {H : Hp} {Q : Bool → Hp → Prop} {k : Bool} (w : tBo X.K EC W (M.pure k) σ H Q) : Q k H := by
  obtain ⟨F, s, q, w⟩ := w
  exact w H ⟨q, Fr.refl⟩
/-- one test, then another -/
theorem B_bind {t : M Bool} {f : Bool → M Bool} {σ : L2.St} {H : Hp} {Q : Bool → Hp → Prop} (w : tBo X.K EC W (t.bind f) σ H Q) : tBo X.K EC W t σ H fun k H1 => tBo X.K EC W (f k) σ H1 Q := by
  obtain ⟨F, s, k, w⟩ := w
  exact ⟨F, s, k, w.bind.mono fun b s1 hb H1 ab => ⟨F, s1, ab.ok, (hb.on ab.fr).mono fun b2 s2 h2 H2 a2 => h2 H2 ⟨a2.ok, ab.fr.trans a2.fr⟩⟩⟩
theorem B_mono {t : M Bool} {σ : L2.St} {H : Hp} {Q Q' : Bool → Hp → Prop} (w : tBo X.K EC W t σ H Q) (h : ∀ b H', Q b H' → Q' b H') : tBo X.K EC W t σ H Q' := by
  obtain ⟨F, s, k, w⟩ := w
  exact ⟨F, s, k, w.mono fun b s1 hb H1 ab => h _ _ (hb H1 ab)⟩

theorem P_not (h : PT X a (tBo X.K EC W (testM m))) : PT X (.UnaryOp .Not a pos) (tBo X.K EC W (testM ((testM m).bind fun k => bM (!k)))) := ptW (pt_not h) fun σ H Q w => by
  obtain ⟨F, s, k, w⟩ := w
  have w : Wp X.K EC W F s σ H (((frz ((testM m).bind fun k => bM (!k))).bind fun d => match d with
    | .bool b => M.pure b
    | _ => bad) s) _ := w
  exact ⟨F, s, k, w.bind.bind.bind.mono fun b s1 hb H1 ab => hb H1 ab⟩
theorem E_not (h : PT X a (tBo X.K EC W (testM m))) (hv : PE X a (tE X.K EC W m)) : PE X (.UnaryOp .Not a pos) (tE X.K EC W ((testM m).bind fun k => bM (!k))) :=
  peW (pe_not hv) fun σ H Q ⟨F, s, k, w⟩ => tT_of (Q := fun b H' => Q (.bl (!b)) H') ⟨F, s, k, w.bind.mono fun b s1 hb H1 ab => hb _ _ ⟨ab.ok, ab.fr, .bl _⟩⟩
theorem E_ife (hc : PT X c (tBo X.K EC W (testM mc))) (ha : PE X a (tE X.K EC W ma)) (hb : PE X b (tE X.K EC W mb)) : PE X (.IfExp c a b pos) (tE X.K EC W ((testM mc).bind fun k => if k then ma else mb)) :=
  peW (pe_ifExp hc ha hb) fun σ H Q ⟨F, s, k, w⟩ => ⟨F, s, k, w.bind.mono fun q s1 hq H1 aq => by
    cases q with
    | true => exact ⟨F, s1, aq.ok, (hq.on aq.fr).mono fun r s2 hr v H2 ar => hr v H2 (ar.back aq.fr)⟩
    | false => exact ⟨F, s1, aq.ok, (hq.on aq.fr).mono fun r s2 hr v H2 ar => hr v H2 (ar.back aq.fr)⟩⟩
/-- any expression as a test that is looked at by its parts -/
theorem P_ife (hc : PT X c (tBo X.K EC W (testM mc))) (ha : PT X a (tBo X.K EC W (testM ma))) (hb : PT X b (tBo X.K EC W (testM mb))) (h : ∀ (t u v : TT), PT X c t → PT X a u → PT X b v → PT X (.IfExp c a b pos) (fun σ H Q => t σ H fun k H1 => if k = true then u σ H1 Q else v σ H1 Q)) :
    PT X (.IfExp c a b pos) (tBo X.K EC W (testM ((testM mc).bind fun k => if k then ma else mb))) := ptW (h _ _ _ hc ha hb) fun σ H Q ⟨F, s, k, w⟩ => by
  have w : Wp X.K EC W F s σ H (((frz ((testM mc).bind fun k => if k then ma else mb)).bind fun d => match d with
    | .bool b => M.pure b
    | _ => bad) s) _ := w
  refine ⟨F, s, k, ?_⟩
  have e : ((frz ((testM mc).bind fun k => if k then ma else mb)).bind fun d => match d with
    | .bool b => M.pure b
    | _ => bad) s = (testM mc s).bind fun q s1 => if q then testM ma s1 else testM mb s1 := by
    show ((((testM mc s).bind fun q s1 => (if q then ma else mb) s1).bind fun r s' => lift r.data s').bind _) = _
    cases testM mc s with
    | bad => rfl
    | err e s' => rfl
    | ok q s' => cases q <;> rfl
  rw [e] at w
  cases z : testM mc s with
  | bad => rw [z] at w; exact w.elim
  | err e s' => rw [z] at w; exact w
  | ok q s1 =>
    rw [z] at w
    intro H1 aq
    cases q with
    | true => exact ⟨F, s1, aq.ok, (Wp.on aq.fr w).mono fun r s2 hr H2 ar => hr H2 ⟨ar.ok, aq.fr.trans ar.fr⟩⟩
    | false => exact ⟨F, s1, aq.ok, (Wp.on aq.fr w).mono fun r s2 hr H2 ar => hr H2 ⟨ar.ok, aq.fr.trans ar.fr⟩⟩
end
end Hg
set_option Elab.async false
set_option linter.all false
set_option maxRecDepth 100000
set_option maxHeartbeats 400000
/-! One rule a term: the rest of the expressions. -/
namespace Hg
open PySem PySem.Spec PyProof.Rows L2
section
variable {X : Cx} {EC : Nat → Addr} {W : WX} {C : Cal} {e a b c : Expr} {es : List Expr} {m ma mb mc : M Sl} {pos : Pos} {ia ib : Ex}
theorem pt_ife {t u v : TT} (hc : PT X c t) (ha : PT X a u) (hb : PT X b v) : PT X (.IfExp c a b pos) (fun σ H Q => t σ H fun k H1 => if k = true then u σ H1 Q else v σ H1 Q) := by
  refine ⟨fun pins s σ H Q I h => ?_⟩
  rw [PySem.isTrue]
  refine wpAny_bind (thn (hc.run pins s σ H _ I h) fun d s1 ⟨H1, I1, q1⟩ => ?_)
  cases d with
  | true => exact ha.run pins s1 σ H1 Q I1 q1
  | false => exact hb.run pins s1 σ H1 Q I1 q1

/-! ### chains -/
theorem T_chain (o p : CmpOp) {σ : L2.St} {H : Hp} {Q : VK} (w : tE X.K EC W ((frz ma).bind fun x => (frz mb).bind fun y => (lift (cmpD o x y)).bind fun k => if k then (frz mc).bind fun z => lift ((cmpD p y z).map fun k => .sh (.bool k)) else bM false) σ H Q) :
    tChain (rCmp X.K (cmpD o)) (rCmp X.K (cmpD p)) (tD X.K EC W (frz ma)) (tD X.K EC W (frz mb)) (tD X.K EC W (frz mc)) σ H Q := by
  obtain ⟨F, s, k, w⟩ := w
  refine ⟨F, s, k, w.bind.mono fun x s1 hx v H1 ax => ?_⟩
  refine ⟨F, s1, ax.ok, ((hx.on ax.fr).bind).mono fun y s2 hy u H2 ay => ?_⟩
  have f2 := ax.fr.trans ay.fr
  obtain ⟨q, e1, hy⟩ := (hy.on ay.fr).bind.lift
  refine ⟨Nn F s2 σ, x, y, q, (Rp.mono ay.fr.le _ _ ax.rp).rd, ay.rp.rd, e1, q, rfl, ?_⟩
  cases q with
  | false =>
    have hy : ∀ v H', AftS X.K F s σ H (.sh (.bool false)) s2 v H' → Q v H' := hy
    exact hy _ _ ⟨ay.ok, f2, .bl false⟩
  | true =>
    refine ⟨F, s2, ay.ok, (hy.bind).mono fun z s3 hz z' H3 az => ?_⟩
    obtain ⟨r, e3, hz⟩ := hz.lift
    obtain ⟨q, e4, rfl⟩ := Option.map_eq_some_iff.mp e3
    exact ⟨Nn F s3 σ, y, z, q, (Rp.mono az.fr.le _ _ ay.rp).rd, az.rp.rd, e4, hz _ _ ⟨az.ok, f2.trans az.fr, .bl q⟩⟩
theorem E_chain (hu : X.A.units + 65 < cLine) (o p : CmpOp) (ha : PE X a (tE X.K EC W ma)) (hb : PE X b (tE X.K EC W mb)) (hc : PE X c (tE X.K EC W mc)) (hm : lastMarks [o, p] [b, c] = false) :
    PE X (.Compare a [o, p] [b, c] pos) (tE X.K EC W ((frz ma).bind fun x => (frz mb).bind fun y => (lift (cmpD o x y)).bind fun k => if k then (frz mc).bind fun z => lift ((cmpD p y z).map fun k => .sh (.bool k)) else bM false)) :=
  peW (pe_chain (cmp_ok hu o) (cmp_ok hu p) (pe_frz ha) (pe_frz hb) (pe_frz hc) hm) fun σ H Q w => T_chain o p w
theorem P_chain (hu : X.A.units + 65 < cLine) (o p : CmpOp) (ha : PE X a (tE X.K EC W ma)) (hb : PE X b (tE X.K EC W mb)) (hc : PE X c (tE X.K EC W mc)) (hm : lastMarks [o, p] [b, c] = false) :
    PT X (.Compare a [o, p] [b, c] pos) (tBo X.K EC W (testM ((frz ma).bind fun x => (frz mb).bind fun y => (lift (cmpD o x y)).bind fun k => if k then (frz mc).bind fun z => lift ((cmpD p y z).map fun k => .sh (.bool k)) else bM false))) :=
  ptW (pt_chain (cmp_ok hu o) (cmp_ok hu p) (pe_frz ha) (pe_frz hb) (pe_frz hc) hm) fun σ H Q w => T_chain o p (tT_of w)

/-! ### and, or -/
theorem P_and1 (h : PT X a (tBo X.K EC W (testM m))) : PW X (.BoolOp .And [a] pos) (tBo X.K EC W ((testM m).bind fun k => if k then M.pure true else M.pure false)) := pwW (pw_and1 h) fun σ H Q w => B_mono (B_bind w) fun b H' q => by
  cases b with
  | true => exact B_pure q
  | false => exact B_pure q
theorem P_and {t : M Bool} {rest : List Expr} (h : PT X a (tBo X.K EC W (testM m))) (h2 : PW X (.BoolOp .And (b :: rest) pos) (tBo X.K EC W t)) : PW X (.BoolOp .And (a :: b :: rest) pos) (tBo X.K EC W ((testM m).bind fun k => if k then t else M.pure false)) :=
  pwW (pw_and h h2) fun σ H Q w => B_mono (B_bind w) fun k H' q => by
    cases k with
    | true => exact q
    | false => exact B_pure q
theorem P_or1 (h : PT X a (tBo X.K EC W (testM m))) : PW X (.BoolOp .Or [a] pos) (tBo X.K EC W ((testM m).bind fun k => if k then M.pure true else M.pure false)) := pwW (pw_or1 h) fun σ H Q w => B_mono (B_bind w) fun b H' q => by
  cases b with
  | true => exact B_pure q
  | false => exact B_pure q
theorem P_or {t : M Bool} {rest : List Expr} (h : PT X a (tBo X.K EC W (testM m))) (h2 : PW X (.BoolOp .Or (b :: rest) pos) (tBo X.K EC W t)) : PW X (.BoolOp .Or (a :: b :: rest) pos) (tBo X.K EC W ((testM m).bind fun k => if k then M.pure true else t)) :=
  pwW (pw_or h h2) fun σ H Q w => B_mono (B_bind w) fun k H' q => by
    cases k with
    | true => exact B_pure q
    | false => exact q
/-- an expression that gives a truth -/
def tBv (X : Cx) (EC : Nat → Addr) (W : WX) (t : M Bool) : TE := fun σ H Q => tBo X.K EC W t σ H fun b H' => Q (.bl b) H'
theorem E_test (h : PE X a (tE X.K EC W m)) : PE X a (tBv X EC W (testM m)) := peW h fun σ H Q w => by
  obtain ⟨F, s, k, z⟩ := tT_of w
  exact ⟨F, s, k, z.mono fun r s1 hr v H1 ar => by
    obtain ⟨q, rfl, h⟩ := hr v H1 ar
    exact h⟩
theorem E_and1 (h : PE X a (tE X.K EC W m)) : PE X (.BoolOp .And [a] pos) (tBv X EC W ((testM m).bind fun k => if k then M.pure true else M.pure false)) := peW (pe_one (E_test h)) fun σ H Q w => B_mono (B_bind w) fun b H' q => by
  cases b with
  | true => exact B_pure q
  | false => exact B_pure q
theorem E_or1 (h : PE X a (tE X.K EC W m)) : PE X (.BoolOp .Or [a] pos) (tBv X EC W ((testM m).bind fun k => if k then M.pure true else M.pure false)) := peW (pe_one (E_test h)) fun σ H Q w => B_mono (B_bind w) fun b H' q => by
  cases b with
  | true => exact B_pure q
  | false => exact B_pure q
theorem E_and {t : M Bool} {rest : List Expr} (h : PE X a (tE X.K EC W m)) (h2 : PE X (.BoolOp .And (b :: rest) pos) (tBv X EC W t)) : PE X (.BoolOp .And (a :: b :: rest) pos) (tBv X EC W ((testM m).bind fun k => if k then t else M.pure false)) :=
  peW (pe_and (E_test h) h2) fun σ H Q w => B_mono (B_bind w) fun k H' q => by
    refine ⟨k, rfl, ?_⟩
    cases k with
    | true => exact q
    | false => exact B_pure q
theorem E_or {t : M Bool} {rest : List Expr} (h : PE X a (tE X.K EC W m)) (h2 : PE X (.BoolOp .Or (b :: rest) pos) (tBv X EC W t)) : PE X (.BoolOp .Or (a :: b :: rest) pos) (tBv X EC W ((testM m).bind fun k => if k then M.pure true else t)) :=
  peW (pe_or (E_test h) h2) fun σ H Q w => B_mono (B_bind w) fun k H' q => by
    refine ⟨k, rfl, ?_⟩
    cases k with
    | true => exact B_pure q
    | false => exact q
theorem testB {t : M Bool} : testM (t.bind bM) = t := by
  funext s
  show (((t s).bind fun b s' => R.ok (Sl.sh (.bool b)) s').bind _).bind _ = _
  cases t s <;> rfl

/-! ### items, slices, negatives -/
theorem E_neg (h : PE X a (tE X.K EC W m)) : PE X (.UnaryOp .USub a pos) (tE X.K EC W ((frz m).bind fun d => match d with
    | .int i => M.pure (.sh (.int (-i)))
    | _ => bad)) := peW (pe_un un_neg (pe_frz h)) fun σ H Q ⟨F, s, k, w⟩ => ⟨F, s, k, w.bind.mono fun d s1 hd v H1 ad => by
  cases d with
  | int i =>
    have hd : ∀ v H', AftS X.K F s σ H (.sh (.int (-i))) s1 v H' → Q v H' := hd
    cases ad.rp
    exact ⟨i, rfl, hd _ _ ⟨ad.ok, ad.fr, .int _⟩⟩
  | _ => exact hd.elim⟩
theorem E_ix {oa : M Op} (ha : PE X a (tO X.K EC W oa)) (hb : PE X b (tE X.K EC W mb)) (hp : PlainIx b) : PE X (.Subscript a b pos) (tE X.K EC W (oa.bind fun x => (frz mb).bind fun e => (resO x).bind fun d => lift ((ixD d e).map .sh))) :=
  peW (pe_ix ix_ok ha (pe_frz hb) hp) fun σ H Q ⟨F, s, k, w⟩ => ⟨F, s, k, w.bind.mono fun x s1 hx v H1 ax => by
    obtain ⟨k1, f1⟩ := ax.ok k
    refine ⟨F, s1, k1, ((hx.on f1).bind).mono fun y s2 hy u H2 ay => ?_⟩
    obtain ⟨d, e1, hy⟩ := (hy.on ay.fr).res
    obtain ⟨r, e3, hy⟩ := hy.lift
    obtain ⟨q, e4, rfl⟩ := Option.map_eq_some_iff.mp e3
    exact ⟨Nn F s2 σ, d, y, q, (ax.use ay.ok ay.fr e1).2, ay.rp.rd, e4, fun v' r' => hy v' H2 ⟨ay.ok, f1.trans ay.fr, r'⟩⟩⟩
def tOi (K : PySem.W.Frag) (EC : Nat → Addr) (W : WX) (m : M (Option Int)) : TO := fun σ H Q => ∃ F s, StOk K F s σ H ∧ Wp K EC W F s σ H (m s) fun o s' => ∀ H', AftB K F s σ H s' H' → Q o H'
theorem O_none {i : Ex} (h : isNon i = true) : PO X none (tOi X.K EC W (partM i m)) := by
  refine ⟨fun pins s σ H Q I q => po_none.run pins s σ H Q I ?_⟩
  obtain ⟨F, t, k, w⟩ := q
  unfold partM at w
  rw [if_pos h] at w
  exact w H ⟨k, Fr.refl⟩
theorem O_some {i : Ex} (h : isNon i = false) (ha : PE X a (tE X.K EC W m)) : PO X (some a) (tOi X.K EC W (partM i m)) := by
  refine ⟨fun pins s σ H Q I q => (po_some (pe_frz ha)).run pins s σ H Q I ?_⟩
  obtain ⟨F, t, k, w⟩ := q
  unfold partM at w
  rw [if_neg (by rw [h]; decide)] at w
  refine ⟨F, t, k, w.bind.mono fun d s1 hd v H1 ad => ?_⟩
  cases d with
  | int i =>
    have hd : ∀ H', AftB X.K F t σ H s1 H' → Q (some i) H' := hd
    cases ad.rp
    exact ⟨i, rfl, hd _ ⟨ad.ok, ad.fr⟩⟩
  | _ => exact hd.elim
theorem E_sl {oa : M Op} {lo hi : Option Expr} {l h : M (Option Int)} {p2 : Pos} (ha : PE X a (tO X.K EC W oa)) (h1 : PO X lo (tOi X.K EC W l)) (h2 : PO X hi (tOi X.K EC W h)) :
    PE X (.Subscript a (.Slice lo hi none p2) pos) (tE X.K EC W (oa.bind fun x => l.bind fun l => h.bind fun h => (resO x).bind fun d => lift (slD d l h))) :=
  peW (pe_slice sl_ok ha h1 h2) fun σ H Q ⟨F, s, k, w⟩ => ⟨F, s, k, w.bind.mono fun x s1 hx v H1 ax => by
    obtain ⟨k1, f1⟩ := ax.ok k
    refine ⟨F, s1, k1, ((hx.on f1).bind).mono fun l s2 hl H2 al => ?_⟩
    refine ⟨F, s2, al.ok, ((hl.on al.fr).bind).mono fun u s3 hu H3 au => ?_⟩
    have f3 := al.fr.trans au.fr
    obtain ⟨d, e1, hu⟩ := (hu.on au.fr).res
    obtain ⟨r, e3, hu⟩ := hu.lift
    refine ⟨Nn F s3 σ, d, r, fun _ => au.ok.nn, (ax.use au.ok f3 e1).2, e3, give_of au.ok (fun v' H' z => hu v' H' (z.back (f1.trans f3))) ?_⟩
    rintro rfl
    revert e3
    unfold slD
    split <;> exact fun z => nomatch z⟩

/-! ### lists of expressions -/
theorem A_nil : PA X [] (tDs X.K EC W (M.pure [])) := paW pa_nil fun σ H Q ⟨F, s, k, w⟩ => w [] H ⟨k, Fr.refl, .nil⟩
theorem A_cons {ms : M (List D)} (h : PE X e (tE X.K EC W m)) (hs : PA X es (tDs X.K EC W ms)) (n : noStar e = true) : PA X (e :: es) (tDs X.K EC W ((frz m).bind fun d => ms.bind fun ds => M.pure (d :: ds))) :=
  paW (pa_cons (pe_frz h) hs (star_cons n _)) fun σ H Q ⟨F, s, k, w⟩ => ⟨F, s, k, w.bind.mono fun d s1 hd v H1 ad =>
    ⟨F, s1, ad.ok, ((hd.on ad.fr).bind).mono fun ds s2 hds vs H2 ads => hds _ _ ⟨ads.ok, ad.fr.trans ads.fr, .cons (Rp.mono ads.fr.le _ _ ad.rp) ads.rp⟩⟩⟩
theorem E_tup {k1 : Nat} {ms : M (List D)} (h : PA X es (tDs X.K EC W ms)) : PE X (.Tuple es k1 pos) (tE X.K EC W (ms.bind fun ds => if ds.length ≤ sizeLine then M.pure (.sh (.tuple ds)) else bad)) :=
  peW (pe_tup h) fun σ H Q ⟨F, s, k, w⟩ => ⟨F, s, k, w.bind.mono fun ds s1 hd vs H1 ad => by
    by_cases c : ds.length ≤ sizeLine
    · rw [if_pos c] at hd
      refine ⟨by rw [ad.rp.length]; exact c, fun p hp => hd _ _ ⟨ad.ok.new hp, ad.fr.trans (ad.ok.frNew hp), Dm.tup (fun _ => ad.ok.nn) hp ad.rp⟩⟩
    · rw [if_neg c] at hd
      exact hd.elim⟩
theorem AftW.new {s s1 : S} {σ : L2.St} {H H1 : Hp} {F : NS} {ds : List D} {vs : List V} {p : Addr} (k : StOk X.K F s1 σ H1) (f : Fr F (Nn F s σ) H (Nn F s1 σ) H1) (hp : H1 p = none) (r : RpA X.K (Hid (Nn F s1 σ) H1) vs ds) :
    AftW X.K F s σ H (.lst ds) s1 p (upd H1 p (.lst vs)) := by
  obtain ⟨k1, f1⟩ := k.newOw (o := .lst vs) .lst hp
  refine ⟨k1, f.trans f1, fun z => k.free hp (.inl z), ?_⟩
  rw [nn_ad]
  exact Dm.lst (fun _ => k.nn) hp r
theorem E_lst {ms : M (List D)} (h : PA X es (tDs X.K EC W ms)) : PE X (.List es pos) (tE X.K EC W (ms.bind fun ds => if ds.length ≤ sizeLine then M.pure (.ow (.lst ds)) else bad)) :=
  peW (pe_lst h) fun σ H Q ⟨F, s, k, w⟩ => ⟨F, s, k, w.bind.mono fun ds s1 hd vs H1 ad => by
    by_cases c : ds.length ≤ sizeLine
    · rw [if_pos c] at hd
      exact ⟨by rw [ad.rp.length]; exact c, fun p hp => hd _ _ ⟨p, rfl, AftW.new ad.ok ad.fr hp ad.rp⟩⟩
    · rw [if_neg c] at hd
      exact hd.elim⟩
/-- operands -/
inductive OpA (K : PySem.W.Frag) (F : NS) (s : S) (σ : L2.St) (H : Hp) : List V → List Op → Prop
  | nil : OpA K F s σ H [] []
  | dd {v : V} {vs : List V} {d : D} {as : List Op} : Rp K (Hid (Nn F s σ) H) v d → OpA K F s σ H vs as → OpA K F s σ H (v :: vs) (.d d :: as)
  | vv {v : V} {vs : List V} {i : Nat} {as : List Op} : σ[i]? = some (some v) → OpA K F s σ H vs as → OpA K F s σ H (v :: vs) (.v i :: as)
structure AftOs (K : PySem.W.Frag) (F : NS) (s : S) (σ : L2.St) (H : Hp) (xs : List Op) (s' : S) (vs : List V) (H' : Hp) : Prop where
  ok : StOk K F s' σ H'
  fr : Fr F (Nn F s σ) H (Nn F s' σ) H'
  rp : OpA K F s' σ H' vs xs
def tOs (K : PySem.W.Frag) (EC : Nat → Addr) (W : WX) (m : M (List Op)) : TA := fun σ H Q => ∃ F s, StOk K F s σ H ∧ Wp K EC W F s σ H (m s) fun r s' => ∀ v H', AftOs K F s σ H r s' v H' → Q v H'
theorem O_nil : PA X [] (tOs X.K EC W (M.pure [])) := paW pa_nil fun σ H Q ⟨F, s, k, w⟩ => w [] H ⟨k, Fr.refl, .nil⟩
theorem O_cons {oa : M Op} {ms : M (List Op)} (h : PE X e (tO X.K EC W oa)) (hs : PA X es (tOs X.K EC W ms)) (n : noStar e = true) : PA X (e :: es) (tOs X.K EC W (oa.bind fun d => ms.bind fun ds => M.pure (d :: ds))) :=
  paW (pa_cons h hs (star_cons n _)) fun σ H Q ⟨F, s, k, w⟩ => ⟨F, s, k, w.bind.mono fun d s1 hd v H1 ad => by
    obtain ⟨k1, f1⟩ := ad.ok k
    refine ⟨F, s1, k1, ((hd.on f1).bind).mono fun ds s2 hds vs H2 ads => hds _ _ ⟨ads.ok, f1.trans ads.fr, ?_⟩⟩
    cases d with
    | d d => exact .dd (Rp.mono ads.fr.le _ _ (AftD.rp ad)) ads.rp
    | v i => exact .vv ad.2.2.1 ads.rp⟩
theorem useV {K : PySem.W.Frag} {F : NS} {s s' : S} {σ : L2.St} {H : Hp} {i : Nat} {v : V} {d : D} (k : StOk K F s σ H) (hv : σ[i]? = some (some v)) (e : resV i s = .ok d s') : s' = s ∧ Rd_ K (Nn F s σ) H v d := by
  unfold resV at e
  split at e
  · rename_i o' q
    cases e
    obtain ⟨p, e1, z⟩ := k.ow i o' q
    rw [hv] at e1
    cases e1
    exact ⟨rfl, z.rd⟩
  · rename_i d' q
    cases e
    obtain ⟨v', e1, z⟩ := k.sh i d q
    rw [hv] at e1
    cases e1
    exact ⟨rfl, z.rd⟩
  · cases e
theorem resV_no {i : Nat} {s s' : S} {e : Er} : resV i s ≠ .err e s' := by
  unfold resV
  split <;> exact fun z => nomatch z
/-- all operands are read -/
theorem OpA.read {K : PySem.W.Frag} {F : NS} {s : S} {σ : L2.St} {H : Hp} (k : StOk K F s σ H) : ∀ {vs : List V} {xs : List Op}, OpA K F s σ H vs xs → resOs xs s = .bad ∨ ∃ ds, resOs xs s = .ok ds s ∧ RdA K (Nn F s σ) H vs ds
  | _, _, .nil => .inr ⟨[], rfl, .nil⟩
  | _, _, @OpA.dd _ _ _ _ _ v vs d as r t => by
    have e : resOs (.d d :: as) s = (resOs as s).bind fun ds s' => R.ok (d :: ds) s' := rfl
    rcases OpA.read k t with q | ⟨ds, q, z⟩
    · exact .inl (by rw [e, q] <;> rfl)
    · exact .inr ⟨d :: ds, by rw [e, q] <;> rfl, .cons r.rd z⟩
  | _, _, @OpA.vv _ _ _ _ _ v vs i as hv t => by
    have e : resOs (.v i :: as) s = (resV i s).bind fun d s1 => (resOs as s1).bind fun ds s' => R.ok (d :: ds) s' := rfl
    cases z : resV i s with
    | bad => exact .inl (by rw [e, z] <;> rfl)
    | err u s' => exact absurd z resV_no
    | ok d s' =>
      obtain ⟨rfl, rd⟩ := useV k hv z
      rcases OpA.read k t with q | ⟨ds, q, y⟩
      · refine .inl ?_
        rw [e, z]
        show (resOs as s').bind _ = _
        rw [q] <;> rfl
      · refine .inr ⟨d :: ds, ?_, .cons rd y⟩
        rw [e, z]
        show (resOs as s').bind _ = _
        rw [q] <;> rfl
theorem OpA.use {K : PySem.W.Frag} {F : NS} {s : S} {σ : L2.St} {H : Hp} {vs : List V} {xs : List Op} {β : Type} {f : List D → M β} {EC : Nat → Addr} {W : WX} {Φ : β → S → Prop} (k : StOk K F s σ H) (o : OpA K F s σ H vs xs)
    (w : Wp K EC W F s σ H (((resOs xs).bind f) s) Φ) : ∃ ds, RdA K (Nn F s σ) H vs ds ∧ Wp K EC W F s σ H (f ds s) Φ := by
  have e : ((resOs xs).bind f) s = (resOs xs s).bind f := rfl
  rw [e] at w
  rcases o.read k with q | ⟨ds, q, z⟩
  · rw [q] at w
    exact w.elim
  · rw [q] at w
    exact ⟨ds, z, w⟩

/-! ### built-in functions -/
theorem bf_un {b : Bf} {ds : List D} : bfD b ds ≠ some .un := by
  unfold bfD
  split <;> first
    | (intro z; cases z; done)
    | (intro z
       split at z <;> cases z
       done)
    | (intro z
       obtain ⟨k, _, e⟩ := Option.map_eq_some_iff.mp z
       cases e)
theorem bf_use {b : Bf} {ms : M (List Op)} {σ : L2.St} {H : Hp} {Q : VK} (w : tE X.K EC W (ms.bind fun xs => (resOs xs).bind fun ds => lift (bfD b ds)) σ H Q) : tCB (rBf X.K b) (tOs X.K EC W ms) σ H Q := by
  obtain ⟨F, s, k, w⟩ := w
  refine ⟨F, s, k, w.bind.mono fun xs s1 hx vs H1 ax => ?_⟩
  obtain ⟨ds, rd, hx⟩ := ax.rp.use ax.ok (hx.on ax.fr)
  obtain ⟨r, e, hx⟩ := hx.lift
  refine ⟨Nn F s1 σ, ds, r, fun _ => ax.ok.nn, rd, e, give_of ax.ok (fun v' H' z => hx v' H' (z.back ax.fr)) ?_⟩
  rintro rfl
  exact bf_un e
def Bf.isTy : Bf → Bool
  | .int => true
  | .str => true
  | .tuple => true
  | .list => true
  | _ => false
theorem E_bf {b : Bf} {ms : M (List Op)} {n : Str} {p : Pos} (hc : X.calm = true) (hn : b.name = n) (hg : Gl X n) (hm : X.mg n = none) (hs : PA X (e :: es) (tOs X.K EC W ms)) (hst : noStar e = true) (hall : es.all noStar = true) :
    PE X (.Call (.Name n p) (e :: es) [] pos) (tE X.K EC W (ms.bind fun xs => (resOs xs).bind fun ds => lift (bfD b ds))) := by
  subst hn
  have call := bf_ok (X := X) hc b
  have st := star_cons (es := es) hst X.env
  have sa := star_all es pos X.env hall
  cases b with
  | len => exact peW (pe_callB (r := rBf X.K .len) call hg hm (by decide +kernel) hs (by decide) (by decide) st sa) fun σ H Q w => bf_use w
  | abs => exact peW (pe_callB (r := rBf X.K .abs) call hg hm (by decide +kernel) hs (by decide) (by decide) st sa) fun σ H Q w => bf_use w
  | max => exact peW (pe_callB (r := rBf X.K .max) call hg hm (by decide +kernel) hs (by decide) (by decide) st sa) fun σ H Q w => bf_use w
  | min => exact peW (pe_callB (r := rBf X.K .min) call hg hm (by decide +kernel) hs (by decide) (by decide) st sa) fun σ H Q w => bf_use w
  | all => exact peW (pe_callB (r := rBf X.K .all) call hg hm (by decide +kernel) hs (by decide) (by decide) st sa) fun σ H Q w => bf_use w
  | int => exact peW (pe_callTy (r := rBf X.K .int) call hg hm (by decide +kernel) hs (by decide) (by decide) st sa) fun σ H Q w => bf_use w
  | tuple => exact peW (pe_callTy (r := rBf X.K .tuple) call hg hm (by decide +kernel) hs (by decide) (by decide) st sa) fun σ H Q w => bf_use w
  | list => exact peW (pe_callTy (r := rBf X.K .list) call hg hm (by decide +kernel) hs (by decide) (by decide) st sa) fun σ H Q w => bf_use w
  | str => exact peW (pe_callTy (r := rBf X.K .str) call hg hm (by decide +kernel) hs (by decide) (by decide) st sa) fun σ H Q w => bf_use w
end
end Hg
set_option Elab.async false
set_option linter.all false
set_option maxRecDepth 100000
set_option maxHeartbeats 400000
/-! Calls, comprehensions, what is walked. -/
namespace Hg
open PySem PySem.Spec PyProof.Rows L2 RZ RT
section
variable {X : Cx} {EC : Nat → Addr} {W : WX} {C : Cal} {e a b c : Expr} {es : List Expr} {m ma mb mc : M Sl} {pos : Pos} {ia ib : Ex}
/-! ### arguments -/
def tAg (K : PySem.W.Frag) (EC : Nat → Addr) (W : WX) (m : M Ag) : TE := fun σ H Q => ∃ F s, StOk K F s σ H ∧ Wp K EC W F s σ H (m s) fun x s' => ∀ v H', AftA K F s σ H [x] s' [v] H' → Q v H'
def tAs (K : PySem.W.Frag) (EC : Nat → Addr) (W : WX) (m : M (List Ag)) : TA := fun σ H Q => ∃ F s, StOk K F s σ H ∧ Wp K EC W F s σ H (m s) fun xs s' => ∀ vs H', AftA K F s σ H xs s' vs H' → Q vs H'
theorem G_d (h : PE X e (tE X.K EC W m)) : PE X e (tAg X.K EC W (argM false ia m)) := peW (pe_frz h) fun σ H Q ⟨F, s, k, w⟩ => by
  have w : Wp X.K EC W F s σ H (((frz m).bind fun d => M.pure (Ag.d d)) s) _ := w
  exact ⟨F, s, k, w.bind.mono fun d s1 hd v H1 ad => hd v H1 ⟨ad.ok, ad.fr, .d ad.rp .nil⟩⟩
theorem G_io {i : Nat} {x : Str} (h : PE X (.Name x pos) (tVar i)) : PE X (.Name x pos) (tAg X.K EC W (argM true (.var i) m)) := peW h fun σ H Q ⟨F, s, k, w⟩ => by
  have w : Wp X.K EC W F s σ H (match s[i]? with
    | some (.ow _) => R.ok (Ag.io i) s
    | _ => R.bad) _ := w
  cases q : s[i]? with
  | none => rw [q] at w; exact w.elim
  | some z =>
    rw [q] at w
    cases z with
    | un => exact w.elim
    | sh d => exact w.elim
    | ow o =>
      obtain ⟨p, e1, _⟩ := k.ow i o q
      exact ⟨_, e1, w _ H ⟨k, Fr.refl, .io e1 .nil⟩⟩
theorem S_nil : PA X [] (tAs X.K EC W (M.pure [])) := paW pa_nil fun σ H Q ⟨F, s, k, w⟩ => w [] H ⟨k, Fr.refl, .nil⟩
theorem S_cons {x : M Ag} {ms : M (List Ag)} (h : PE X e (tAg X.K EC W x)) (hs : PA X es (tAs X.K EC W ms)) (n : noStar e = true) : PA X (e :: es) (tAs X.K EC W (x.bind fun d => ms.bind fun ds => M.pure (d :: ds))) :=
  paW (pa_cons h hs (star_cons n _)) fun σ H Q ⟨F, s, k, w⟩ => ⟨F, s, k, w.bind.mono fun d s1 hd v H1 ad =>
    ⟨F, s1, ad.ok, ((hd.on ad.fr).bind).mono fun ds s2 hds vs H2 ads => hds _ _ ⟨ads.ok, ad.fr.trans ads.fr, by
      have z := AgA.mono ads.fr.le ad.rp
      cases z with
      | d r _ => exact .d r ads.rp
      | io r _ => exact .io r ads.rp⟩⟩⟩
/-- a def as it is called -/
def FnAt (X : Cx) (EC : Nat → Addr) (C : Cal) (k : Nat) (f : Nat) (n : Str) : Prop := ∃ (a : Addr) (fd : FuncData) (ps : List Str), X.mg n = some (.ref a) ∧ PySem.W.keepIn X.K (.ref a) = true ∧ Binds X.K fd ps [] ∧ ps.length = (C.io f).length ∧
  FnOk X.prog X.w X.K X.mg X.base (L2.CX X.prog X.w) k a fd ps (spF X.K EC (C.io f).length (C.run f))
theorem evAs_len {C : Cal} : ∀ {bs : List Bool} {es : Exs} {s s' : S} {as : List Ag}, evAs C bs es s = .ok as s' → as.length = bs.length
  | [], .nil, s, s', as, h => by
    rw [evAs] at h
    cases h
    rfl
  | [], .cons _ _, s, s', as, h => by
    have h : (R.bad : R (List Ag)) = .ok as s' := h
    cases h
  | _ :: _, .nil, s, s', as, h => by
    have h : (R.bad : R (List Ag)) = .ok as s' := h
    cases h
  | b :: bs, .cons e es, s, s', as, h => by
    rw [evAs] at h
    have h : ((argM b e (evE C e)) s).bind (fun d s1 => ((evAs C bs es) s1).bind fun ds s2 => R.ok (d :: ds) s2) = .ok as s' := h
    cases q : argM b e (evE C e) s with
    | bad => rw [q] at h; cases h
    | err u t => rw [q] at h; cases h
    | ok d s1 =>
      rw [q] at h
      have h : ((evAs C bs es) s1).bind (fun ds s2 => R.ok (d :: ds) s2) = .ok as s' := h
      cases z : evAs C bs es s1 with
      | bad => rw [z] at h; cases h
      | err u t => rw [z] at h; cases h
      | ok ds s2 =>
        rw [z] at h
        cases h
        rw [List.length_cons, List.length_cons, evAs_len z]
theorem AgA.len {K : PySem.W.Frag} {N : NS} {H : Hp} {σ : L2.St} : ∀ {vs : List V} {as : List Ag}, AgA K N H σ vs as → vs.length = as.length
  | _, _, .nil => rfl
  | _, _, .d _ b => congrArg Nat.succ (AgA.len b)
  | _, _, .io _ b => congrArg Nat.succ (AgA.len b)
/-- from the arguments to the promise -/
theorem call_use {f : Nat} {as : List Ag} {F : NS} {s s1 : S} {σ : L2.St} {H H1 : Hp} {vs : List V} {Q : VK} (hl : as.length = (C.io f).length) (a : AftA X.K F s σ H as s1 vs H1)
    (w : Wp X.K EC W F s σ H (callM C f as s1) fun r s' => ∀ v H', AftS X.K F s σ H r s' v H' → Q v H') : spF X.K EC (C.io f).length (C.run f) vs H1 Q (WE W σ) := by
  unfold callM callR at w
  by_cases nd : (ioIx as).Nodup
  · rw [if_pos nd] at w
    cases q : argSls s1 as with
    | none => rw [q] at w; exact w.elim
    | some l =>
      rw [q] at w
      refine ⟨Fc F s1 σ (ioIx as), l, a.rp.len.trans hl, call_in a.ok a.rp q nd, ?_⟩
      unfold runR
      have w : Wp X.K EC W F s σ H (callE (C.run f l) (ioIx as) s1) fun r s' => ∀ v H', AftS X.K F s σ H r s' v H' → Q v H' := w
      cases z : C.run f l with
      | bad => rw [z] at w; exact w.elim
      | ok r outs =>
        rw [z] at w
        dsimp only [callE] at w
        by_cases ho : outs.length = (ioIx as).length
        · rw [if_pos ho] at w
          exact fun v H' aft => w v H' ((call_out a.ok a.rp q nd ho aft).back a.fr)
        · rw [if_neg ho] at w
          exact w.elim
      | err u outs =>
        rw [z] at w
        dsimp only [callE] at w
        by_cases ho : outs.length = (ioIx as).length
        · rw [if_pos ho] at w
          intro H' cls d k' f' er
          rw [nn_call a.rp q] at f'
          obtain ⟨k2, enn⟩ := call_ok (G := F) (Gc := Fc F s1 σ (ioIx as)) a.ok a.rp q nd ho (fun _ z => z) (fun b => Iff.rfl) a.ok.ap k' f'
          exact w H' cls d k2 (a.fr.trans (fr_call f' enn)) er
        · rw [if_neg ho] at w
          exact w.elim
  · rw [if_neg nd] at w
    exact w.elim
/-! ### lent operands -/
theorem R.bind_okA {α β : Type} {r : R α} {f : α → S → R β} {b : β} {s' : S} (h : r.bind f = .ok b s') : ∃ a s1, r = .ok a s1 ∧ f a s1 = .ok b s' := by
  cases r with
  | bad => cases h
  | err e s => cases h
  | ok a s1 => exact ⟨a, s1, rfl, h⟩
theorem letG_res {s : S} {i j : Nat} {d : D} (h : resV j s = .ok d s) : resV j (letG s i) = .ok d (letG s i) := by
  unfold letG
  split
  · rename_i o q
    have hi := get_lt q
    unfold resV at h ⊢
    by_cases hj : j = i
    · subst hj
      rw [q] at h
      cases h
      rw [List.getElem?_set_self hi]
    · rw [List.getElem?_set_ne (Ne.symm hj)]
      cases e : s[j]? with
      | none => rw [e] at h; cases h
      | some x =>
        rw [e] at h
        cases x with
        | un => cases h
        | sh d' => cases h; rfl
        | ow o' => cases h; rfl
  · exact h
theorem resOs_cons {x : Op} {xs : List Op} {s : S} {ds : List D} (h : resOs (x :: xs) s = .ok ds s) : ∃ d r, ds = d :: r ∧ resO x s = .ok d s ∧ resOs xs s = .ok r s := by
  have e : resOs (x :: xs) s = (resO x s).bind fun d s1 => (resOs xs s1).bind fun ds s' => R.ok (d :: ds) s' := rfl
  rw [e] at h
  obtain ⟨d, s1, h1, h2⟩ := R.bind_okA h
  obtain ⟨r, s2, h3, h4⟩ := R.bind_okA h2
  cases h4
  have e1 : s1 = s := by
    cases x with
    | d d' => cases h1; rfl
    | v i =>
      have h1 : resV i s = .ok d s1 := h1
      unfold resV at h1
      split at h1 <;> first | (cases h1; rfl) | (cases h1)
  subst e1
  exact ⟨d, r, rfl, h1, h3⟩
theorem letG_resOs {s : S} {i : Nat} : ∀ {xs : List Op} {ds : List D}, resOs xs s = .ok ds s → resOs xs (letG s i) = .ok ds (letG s i)
  | [], ds, h => by
    have h : (R.ok [] s : R (List D)) = .ok ds s := h
    cases h
    rfl
  | x :: xs, ds, h => by
    obtain ⟨d, r, rfl, h1, h2⟩ := resOs_cons h
    have h3 := letG_resOs (i := i) h2
    have h4 : resO x (letG s i) = .ok d (letG s i) := by
      cases x with
      | d d' => cases h1; rfl
      | v j => exact letG_res h1
    show (resO x (letG s i)).bind _ = _
    rw [h4]
    show (resOs xs (letG s i)).bind _ = _
    rw [h3]
    rfl
section
variable {K : PySem.W.Frag} {F : NS} {s : S} {σ : L2.St} {H : Hp}
theorem OpA.to {s2 : S} (l : Le (Hid (Nn F s σ) H) (Hid (Nn F s2 σ) H)) : ∀ {vs : List V} {xs : List Op}, OpA K F s σ H vs xs → OpA K F s2 σ H vs xs
  | _, _, .nil => .nil
  | _, _, .dd r t => .dd (Rp.mono l _ _ r) (OpA.to l t)
  | _, _, .vv e t => .vv e (OpA.to l t)
theorem letG_ok (k : StOk K F s σ H) (i : Nat) : StOk K F (letG s i) σ H ∧ Fr F (Nn F s σ) H (Nn F (letG s i) σ) H := by
  unfold letG
  split
  · rename_i o q
    obtain ⟨p, e, _⟩ := k.ow i o q
    have z := k.share q e
    exact ⟨z.ok, z.fr⟩
  · exact ⟨k, Fr.refl⟩
theorem letG_rp (k : StOk K F s σ H) {i : Nat} {v : V} {d : D} (hv : σ[i]? = some (some v)) (h : resV i s = .ok d s) : Rp K (Hid (Nn F (letG s i) σ) H) v d := by
  unfold letG
  unfold resV at h
  split
  · rename_i o q
    rw [q] at h
    cases h
    obtain ⟨p, e, _⟩ := k.ow i o q
    rw [hv] at e
    cases e
    exact (k.share q hv).rp
  · rename_i hn
    cases e : s[i]? with
    | none => rw [e] at h; cases h
    | some x =>
      rw [e] at h
      cases x with
      | un => cases h
      | ow o => exact absurd e (hn o)
      | sh d' =>
        cases h
        obtain ⟨v', e1, r⟩ := k.sh i d e
        rw [hv] at e1
        cases e1
        exact r
theorem letGo_ok : ∀ {xs : List Op} {vs : List V} {s : S} {ds : List D}, StOk K F s σ H → OpA K F s σ H vs xs → resOs xs s = .ok ds s →
    StOk K F (letGo s xs) σ H ∧ Fr F (Nn F s σ) H (Nn F (letGo s xs) σ) H ∧ AgA K (Nn F (letGo s xs) σ) H σ vs (ds.map Ag.d)
  | [], _, s, ds, k, .nil, h => by
    have h : (R.ok [] s : R (List D)) = .ok ds s := h
    cases h
    exact ⟨k, Fr.refl, .nil⟩
  | .d d' :: xs, _, s, ds, k, .dd r t, h => by
    obtain ⟨d, ds', rfl, h1, h2⟩ := resOs_cons h
    cases h1
    obtain ⟨k2, f2, g2⟩ := letGo_ok k t h2
    exact ⟨k2, f2, .d (Rp.mono f2.le _ _ r) g2⟩
  | .v i :: xs, _, s, ds, k, .vv e t, h => by
    obtain ⟨d, ds', rfl, h1, h2⟩ := resOs_cons h
    obtain ⟨k1, f1⟩ := letG_ok k i
    obtain ⟨k2, f2, g2⟩ := letGo_ok k1 (t.to f1.le) (letG_resOs (i := i) h2)
    exact ⟨k2, f1.trans f2, .d (Rp.mono f2.le _ _ (letG_rp k e h1)) g2⟩
theorem letGo_no : ∀ {xs : List Op} {s : S}, anyV xs = false → letGo s xs = s
  | [], _, _ => rfl
  | .d _ :: xs, s, h => letGo_no (xs := xs) h
  | .v _ :: xs, s, h => nomatch (show true = false from h)
/-- what a lent call's callee hides -/
def Ln (F : NS) (s : S) (σ : L2.St) (xs : List Op) : NS := Nn F (letGo s xs) σ
/-- the slots behind a call whose answer bears nothing -/
theorem lend_back {H' : Hp} (k : StOk K F s σ H) {N : NS} (sub : ∀ b, N b → Nn F s σ b) (fN : ∀ b, F b → N b) (t : Tb K H') (f : Fr N N H N H') : StOk K F s σ H' ∧ Fr F (Nn F s σ) H (Nn F s σ) H' := by
  have ff : Fr F (Nn F s σ) H (Nn F s σ) H' := ⟨fun b hb => f.keep b (fN b hb), fun b o n t e => ⟨(f.imm b o (fun z => n (sub b z)) t e).1, n⟩⟩
  refine ⟨k.keep ff (fun b hb => ?_) t, ff⟩
  by_cases z : N b
  · exact f.keep b z
  · obtain ⟨u, e, n⟩ := k.own' hb
    rw [e]
    exact (f.imm b u z n.1 e).1
end
theorem scal_rp {K : PySem.W.Frag} {H H' : Hp} {r : Sl} {v : V} (h : scal r = true) : ∃ d, r = .sh d ∧ (Rp K H v d → Rp K H' v d) := by
  unfold scal at h
  split at h
  · exact ⟨_, rfl, fun z => by cases z; exact .non⟩
  · exact ⟨_, rfl, fun z => by cases z; exact .bl _⟩
  · exact ⟨_, rfl, fun z => by cases z; exact .int _⟩
  · exact ⟨_, rfl, fun z => by cases z; exact .str _⟩
  · cases h
theorem ioIx_d : ∀ ds : List D, ioIx (ds.map Ag.d) = []
  | [] => rfl
  | _ :: ds => ioIx_d ds
theorem argSls_d {s : S} : ∀ ds : List D, argSls s (ds.map Ag.d) = some (ds.map Sl.sh)
  | [] => rfl
  | d :: ds => by
    show (match argSl s (.d d), argSls s (ds.map Ag.d) with
      | some x, some xs => some (x :: xs)
      | _, _ => none) = _
    rw [argSls_d ds]
    rfl
theorem outS_d : ∀ ds : List D, outS (ds.map Sl.sh) [] = ds.map Sl.sh
  | [] => rfl
  | d :: ds => by
    show Sl.sh d :: outS (ds.map Sl.sh) [] = _
    rw [outS_d ds]
    rfl
theorem OpA.len {K : PySem.W.Frag} {F : NS} {s : S} {σ : L2.St} {H : Hp} : ∀ {vs : List V} {xs : List Op}, OpA K F s σ H vs xs → vs.length = xs.length
  | _, _, .nil => rfl
  | _, _, .dd _ t => congrArg Nat.succ (OpA.len t)
  | _, _, .vv _ t => congrArg Nat.succ (OpA.len t)
theorem resOs_len {s s' : S} : ∀ {xs : List Op} {ds : List D}, resOs xs s = .ok ds s → ds.length = xs.length
  | [], ds, h => by
    have h : (R.ok [] s : R (List D)) = .ok ds s := h
    cases h
    rfl
  | x :: xs, ds, h => by
    obtain ⟨d, r, rfl, _, h2⟩ := resOs_cons h
    exact congrArg Nat.succ (resOs_len (s' := s') h2)
theorem callN_use {f : Nat} {xs : List Op} {F : NS} {s s1 : S} {σ : L2.St} {H H1 : Hp} {vs : List V} {Q : VK} (a : AftOs X.K F s σ H xs s1 vs H1)
    (w : Wp X.K EC W F s σ H (callN C f xs s1) fun r s' => ∀ v H', AftS X.K F s σ H r s' v H' → Q v H') : spF X.K EC (C.io f).length (C.run f) vs H1 Q (WE W σ) := by
  unfold callN at w
  by_cases hl : xs.length = (C.io f).length
  case neg => rw [if_neg hl] at w; exact w.elim
  rw [if_pos hl] at w
  rcases a.rp.read a.ok with q | ⟨ds, q, _⟩
  · rw [q] at w; exact w.elim
  rw [q] at w
  have ld := resOs_len (s' := s1) q
  obtain ⟨k2, f2, g2⟩ := letGo_ok a.ok a.rp q
  have old : Wp X.K EC W F s σ H (callM C f (ds.map Ag.d) (letGo s1 xs)) (fun r s' => ∀ v H', AftS X.K F s σ H r s' v H' → Q v H') → spF X.K EC (C.io f).length (C.run f) vs H1 Q (WE W σ) := fun w =>
    call_use (by rw [List.length_map, ld, hl]) ⟨k2, a.fr.trans f2, g2⟩ w
  dsimp only at w
  by_cases hv : anyV xs = true
  case neg =>
    rw [if_neg hv] at w
    rw [← letGo_no (xs := xs) (s := s1) (by simpa using hv)] at w
    exact old w
  rw [if_pos hv] at w
  cases hr : C.run f (ds.map Sl.sh) with
  | bad => rw [hr] at w; exact old w
  | err u outs => rw [hr] at w; exact old w
  | ok r outs =>
    rw [hr] at w
    cases outs with
    | cons o os => exact old w
    | nil =>
      dsimp only at w
      by_cases hs : scal r = true
      case neg => rw [if_neg hs] at w; exact old w
      rw [if_pos hs] at w
      have w : ∀ v H', AftS X.K F s σ H r s1 v H' → Q v H' := w
      have sub : ∀ b, Nn F (letGo s1 xs) σ b → Nn F s1 σ b := fun b z => by
        by_cases c : Nn F s1 σ b
        · exact c
        · obtain ⟨u, e, n⟩ := k2.nn' z
          exact absurd z (f2.imm b u c n.1 e).2
      have no : ∀ b, ¬ Own (ds.map Sl.sh) (vs.map some) b := fun b ⟨i, o, e, _⟩ => by
        rw [List.getElem?_map] at e
        cases z : ds[i]? with
        | none => rw [z] at e; cases e
        | some d => rw [z] at e; cases e
      have nn : ∀ G : NS, Nn G (ds.map Sl.sh) (vs.map some) = G := fun G => by
        funext b
        exact propext ⟨fun z => z.elim id fun z => absurd z (no b), .inl⟩
      have at_ : ∀ (i : Nat) (d : D), ds[i]? = some d → ∃ v, vs[i]? = some v ∧ Rp X.K (Hid (Nn F (letGo s1 xs) σ) H1) v d := by
        have go : ∀ {ds : List D} {vs : List V}, AgA X.K (Nn F (letGo s1 xs) σ) H1 σ vs (ds.map Ag.d) → ∀ (i : Nat) (d : D), ds[i]? = some d → ∃ v, vs[i]? = some v ∧ Rp X.K (Hid (Nn F (letGo s1 xs) σ) H1) v d := by
          intro ds
          induction ds with
          | nil => intro vs _ i d e; simp at e
          | cons d0 ds ih =>
            intro vs g i d e
            cases g with
            | d r t =>
              cases i with
              | zero =>
                simp at e
                subst e
                exact ⟨_, rfl, r⟩
              | succ i =>
                obtain ⟨v, e1, e2⟩ := ih t i d (by simpa using e)
                exact ⟨v, by simpa using e1, e2⟩
        exact go g2
      refine ⟨Nn F (letGo s1 xs) σ, ds.map Sl.sh, a.rp.len.trans hl, ⟨by rw [List.length_map, List.length_map, ld, a.rp.len], fun i d e => ?_, fun i o e => ?_, fun i j o o' p e => ?_, fun b z => absurd z (no b), fun b z => k2.nn' z, a.ok.tb⟩, ?_⟩
      · rw [nn, List.getElem?_map]
        rw [List.getElem?_map] at e
        cases z : ds[i]? with
        | none => rw [z] at e; cases e
        | some d' =>
          rw [z] at e
          cases e
          obtain ⟨v, e1, e2⟩ := at_ i d z
          exact ⟨v, by rw [e1]; rfl, e2⟩
      · rw [List.getElem?_map] at e
        cases z : ds[i]? with
        | none => rw [z] at e; cases e
        | some d' => rw [z] at e; cases e
      · rw [List.getElem?_map] at e
        cases z : ds[i]? with
        | none => rw [z] at e; cases e
        | some d' => rw [z] at e; cases e
      · unfold runR
        rw [hr]
        dsimp only
        rw [outS_d]
        obtain ⟨d, rfl, hrp⟩ := scal_rp (K := X.K) (H := H) (H' := H) (v := .non) hs
        intro v H' aft
        have aft : AftD X.K (Nn F (letGo s1 xs) σ) (ds.map Sl.sh) (vs.map some) H1 d (ds.map Sl.sh) v H' := aft
        have fr := aft.fr
        rw [nn] at fr
        obtain ⟨kb, fb⟩ := lend_back a.ok sub (fun b z => .inl z) aft.ok.tb fr
        obtain ⟨d', e1, hrp'⟩ := scal_rp (K := X.K) (H := Hid (Nn (Nn F (letGo s1 xs) σ) (ds.map Sl.sh) (vs.map some)) H') (H' := Hid (Nn F s1 σ) H') (v := v) hs
        cases e1
        exact w v H' ⟨kb, a.fr.trans fb, hrp' aft.rp⟩
theorem Wp.len {α β : Type} {K : PySem.W.Frag} {F : NS} {s : S} {σ : L2.St} {H : Hp} {m : M α} {f : α → M β} {Φ : β → S → Prop} (w : Wp K EC W F s σ H ((m.bind f) s) Φ) : Wp K EC W F s σ H (m s) fun a s1 => m s = .ok a s1 ∧ Wp K EC W F s σ H (f a s1) Φ := by
  have w := w.bind
  cases q : m s with
  | bad => rw [q] at w; exact w
  | err e s' => rw [q] at w; exact w
  | ok a s1 => rw [q] at w; exact ⟨rfl, w⟩
theorem E_callN {k f : Nat} {n : Str} {ma : M (List Op)} {p : Pos} (tk : Takes X W) (hr : Room k X.A) (hg : Gl X n) (hd : (n == ("__debug__" : Str)) = false) (hF : FnAt X EC C k f n) (hs : PA X (e :: es) (tOs X.K EC W ma)) (hst : noStar e = true) (hall : es.all noStar = true) :
    PE X (.Call (.Name n p) (e :: es) [] pos) (tE X.K EC W (ma.bind fun xs => callN C f xs)) := by
  obtain ⟨ad, fd, ps, hm, hk, hb, _, F⟩ := hF
  exact peW (pe_callS F hr hg hm hk hb (passAt tk) hs hd (star_cons hst _) (star_all es pos X.env hall)) fun σ H Q ⟨Fs, s, k, w⟩ => ⟨Fs, s, k, w.bind.mono fun xs s1 hx vs H1 ax => callN_use ax hx⟩
theorem E_callG {k f : Nat} {n : Str} {ma : M (List Ag)} {p : Pos} (tk : Takes X W) (hr : Room k X.A) (hg : Gl X n) (hd : (n == ("__debug__" : Str)) = false) (hF : FnAt X EC C k f n) (hs : PA X (e :: es) (tAs X.K EC W ma)) (hl : ∀ s as s', ma s = .ok as s' → as.length = (C.io f).length) (hst : noStar e = true) (hall : es.all noStar = true) :
    PE X (.Call (.Name n p) (e :: es) [] pos) (tE X.K EC W (ma.bind fun as => callM C f as)) := by
  obtain ⟨ad, fd, ps, hm, hk, hb, _, F⟩ := hF
  exact peW (pe_callS F hr hg hm hk hb (passAt tk) hs hd (star_cons hst _) (star_all es pos X.env hall)) fun σ H Q ⟨Fs, s, k, w⟩ => ⟨Fs, s, k, w.len.mono fun as s1 ⟨e1, hx⟩ vs H1 ax => call_use (hl _ _ _ e1) ax hx⟩
theorem E_call {k f : Nat} {n : Str} {ixs : Exs} {p : Pos} (tk : Takes X W) (hr : Room k X.A) (hg : Gl X n) (hd : (n == ("__debug__" : Str)) = false) (hF : FnAt X EC C k f n) (hs : PA X (e :: es) (tAs X.K EC W (evAs C (C.io f) ixs))) (hst : noStar e = true) (hall : es.all noStar = true) :
    PE X (.Call (.Name n p) (e :: es) [] pos) (tE X.K EC W ((evAs C (C.io f) ixs).bind fun as => callM C f as)) := by
  obtain ⟨ad, fd, ps, hm, hk, hb, hl, F⟩ := hF
  exact peW (pe_callS F hr hg hm hk hb (passAt tk) hs hd (star_cons hst _) (star_all es pos X.env hall)) fun σ H Q ⟨Fs, s, k, w⟩ => ⟨Fs, s, k, w.len.mono fun as s1 ⟨e1, hx⟩ vs H1 ax => call_use (evAs_len e1) ax hx⟩

/-! ### isinstance -/
theorem tys_are : ∀ ts : List Ty, Paired ClsV (ts.map fun (t : Ty) => V.ty t.name) (ts.map fun (t : Ty) => Value.type t.name)
  | [] => .nil
  | _ :: ts => .cons (.ty _) (tys_are ts)
theorem E_isi {oa : M Op} {ts : List Ty} {n : Str} {p : Pos} {r : Expr} (hn : n = "isinstance") (hg : Gl X n) (hm : X.mg n = none) (ha : PE X a (tO X.K EC W oa)) (n1 : noStar a = true) (n2 : noStar r = true)
    (hl : ts.length ≤ 10) (hr : (∃ t : Ty, ts = [t] ∧ PE X r (tC (.ty t.name))) ∨ PE X r (tTup fun σ H Q => Q (ts.map fun (t : Ty) => V.ty t.name) H)) :
    PE X (.Call (.Name n p) [a, r] [] pos) (tE X.K EC W (oa.bind fun x => (resO x).bind fun d => M.pure (.sh (.bool (ts.any (isTy d)))))) := by
  subst hn
  rcases hr with ⟨t, rfl, hr⟩ | hr
  · refine peW (pe_callB call_isi hg hm (by decide +kernel) (pa_cons ha (pa_cons hr pa_nil (star_cons n2 _)) (star_cons n1 _)) (by decide) (by decide) (star_cons n1 _) (star_all [r] pos X.env (by rw [List.all_cons, n2] <;> rfl))) fun σ H Q ⟨F, s, k, w⟩ => ⟨F, s, k, w.bind.mono fun x s1 hx v H1 ax => ?_⟩
    obtain ⟨k1, f1⟩ := ax.ok k
    obtain ⟨d, e1, hx⟩ := hx.res
    have rd := (ax.use k1 Fr.refl e1).2
    have hx : ∀ v H', AftS X.K F s σ H (.sh (.bool ([t].any (isTy d)))) s1 v H' → Q v H' := hx
    refine ⟨v, _, _, _, _, rfl, .ty _, rd.ty, kit_ok _ d t, hx _ _ ⟨k1, f1, ?_⟩⟩
    rw [show [t].any (isTy d) = isTy d t by simp]
    exact .bl _
  · refine peW (pe_callB call_isiT hg hm (by decide +kernel) (pa_cons ha (pa_cons hr pa_nil (star_cons n2 _)) (star_cons n1 _)) (by decide) (by decide) (star_cons n1 _) (star_all [r] pos X.env (by rw [List.all_cons, n2] <;> rfl))) fun σ H Q ⟨F, s, k, w⟩ => ⟨F, s, k, w.bind.mono fun x s1 hx v H1 ax => ?_⟩
    obtain ⟨k1, f1⟩ := ax.ok k
    obtain ⟨d, e1, hx⟩ := hx.res
    have hx : ∀ v H', AftS X.K F s σ H (.sh (.bool (ts.any (isTy d)))) s1 v H' → Q v H' := hx
    refine ⟨by rw [List.length_map]; exact Nat.le_trans hl (by decide), fun p hp => ?_⟩
    have k2 := k1.new (o := .tup (ts.map fun (t : Ty) => V.ty t.name)) hp
    have f2 := k1.frNew (o := .tup (ts.map fun (t : Ty) => V.ty t.name)) hp
    have rd := (ax.use k2 f2 e1).2
    refine ⟨v, p, _, _, ts.map fun (t : Ty) => Value.type t.name, _, rfl, upd_same, tys_are ts, rd.ty, kitAny_ok _ d ts, hx _ _ ⟨k2, f1.trans f2, .bl _⟩⟩
/-! ### what is walked -/
/-- an iterator over the data -/
def JOk (K : PySem.W.Frag) (N : NS) (H : Hp) (ds : List D) (J : It) : Prop := ∀ (N1 : NS) (H1 : Hp), Dm N1 H1 → Le (Hid N H) (Hid N1 H1) → ∀ i : Nat,
  (∀ d, ds[i]? = some d → J.go i H1 ∧ ∀ x H2, J.yld i H1 x H2 → (H2 = H1 ∨ ∃ p o, H1 p = none ∧ H2 = upd H1 p o) ∧ Rp K (Hid N1 H2) x d) ∧ (ds[i]? = none → J.stop i H1)
def tSr (K : PySem.W.Frag) (EC : Nat → Addr) (W : WX) (m : M (List D)) : TI := fun σ H R => ∃ F s, StOk K F s σ H ∧ Wp K EC W F s σ H (m s) fun ds s' => ∀ J H', StOk K F s' σ H' → Fr F (Nn F s σ) H (Nn F s' σ) H' → JOk K (Nn F s' σ) H' ds J → R J H'
theorem piW {tg it : Expr} {t t' : TI} (h : PI X tg it t) (w : ∀ σ H R, t' σ H R → t σ H R) : PI X tg it t' := ⟨fun pins s σ H R I q => h.run pins s σ H R I (w σ H R q)⟩
theorem piOr {tg it : Expr} {t t' : TI} (h : PI X tg it t) (h' : PI X tg it t') : PI X tg it (fun σ H R => t σ H R ∨ t' σ H R) := ⟨fun pins s σ H R I q => q.elim (h.run pins s σ H R I) (h'.run pins s σ H R I)⟩
theorem RpA.none_of {K : PySem.W.Frag} {H : Hp} {vs : List V} {ds : List D} (h : RpA K H vs ds) {i : Nat} (e : ds[i]? = none) : vs.length ≤ i := by
  rw [h.length]
  exact List.getElem?_eq_none_iff.mp e
theorem J_list {K : PySem.W.Frag} {N : NS} {H : Hp} {a : Addr} {vs : List V} {ds : List D} (h : RdK K (Hid N H) a vs) (r : RpA K (Hid N H) vs ds) : JOk K N H ds (Itl K a) := fun N1 H1 hd l i => by
  have h1 : SqL K H1 a vs := (hid_le.rdK (l.rdK h)).sqL
  refine ⟨fun d e => ?_, fun e => ⟨vs, h1, r.none_of e⟩⟩
  obtain ⟨v, e1, r1⟩ := r.get e
  refine ⟨⟨vs, v, h1, e1⟩, fun x H2 y => ?_⟩
  obtain ⟨rfl, y⟩ := y
  have := (y vs h1).symm.trans e1
  cases this
  exact ⟨.inl rfl, Rp.mono l _ _ r1⟩
theorem J_tup {K : PySem.W.Frag} {N : NS} {H : Hp} {a : Addr} {vs : List V} {ds : List D} (h : SqT K (Hid N H) a vs) (r : RpA K (Hid N H) vs ds) : JOk K N H ds (Itt K a) := fun N1 H1 hd l i => by
  have h1 : SqT K H1 a vs := hid_le.sqT (l.sqT h)
  refine ⟨fun d e => ?_, fun e => ⟨vs, h1, r.none_of e⟩⟩
  obtain ⟨v, e1, r1⟩ := r.get e
  refine ⟨⟨vs, v, h1, e1⟩, fun x H2 y => ?_⟩
  obtain ⟨rfl, y⟩ := y
  have := (y vs h1).symm.trans e1
  cases this
  exact ⟨.inl rfl, Rp.mono l _ _ r1⟩
theorem W_seq {tg : Expr} (h : PE X e (tE X.K EC W m)) : PI X tg e (tSr X.K EC W ((frz m).bind fun d => lift (seqD d))) := by
  refine piW (piOr (pi_list (tg := tg) (pe_frz h)) (pi_tup (tg := tg) (pe_frz h))) fun σ H R ⟨F, s, k, w⟩ => ?_
  have w := w.bind
  cases q : frz m s with
  | bad => rw [q] at w; exact w.elim
  | err u s' => exact .inl ⟨F, s, k, by rw [q] at w ⊢; exact w⟩
  | ok d s1 =>
    rw [q] at w
    obtain ⟨ds, e1, w⟩ := Wp.lift w
    cases d with
    | list xs =>
      cases (show some xs = some ds from e1)
      refine .inl ⟨F, s, k, ?_⟩
      rw [q]
      intro v H1 ad
      cases ad.rp with
      | lst a b => exact ⟨_, rfl, ⟨_, (hid_le.rdK a).sqL⟩, w _ H1 ad.ok ad.fr (J_list a b)⟩
    | tuple xs =>
      cases (show some xs = some ds from e1)
      refine .inr ⟨F, s, k, ?_⟩
      rw [q]
      intro v H1 ad
      cases ad.rp with
      | tup a b => exact ⟨_, rfl, ⟨_, hid_le.sqT a⟩, w _ H1 ad.ok ad.fr (J_tup a b)⟩
    | _ => cases e1
theorem J_rng {K : PySem.W.Frag} {N : NS} {H : Hp} (lo : Int) (n : Nat) : JOk K N H ((List.range n).map fun (i : Nat) => PyData.int (lo + (i : Int))) (Itr lo n) := fun N1 H1 hd l i => by
  refine ⟨fun d e => ?_, fun e => ?_⟩
  · by_cases hi : i < n
    · rw [List.getElem?_map, List.getElem?_range hi] at e
      cases e
      refine ⟨hi, fun x H2 y => ?_⟩
      obtain ⟨rfl, rfl⟩ := y
      exact ⟨.inl rfl, .int _⟩
    · rw [List.getElem?_eq_none (by simpa using hi)] at e
      cases e
  · have := List.getElem?_eq_none_iff.mp e
    exact (show n ≤ i by simpa using this)
theorem W_rng1 {tg : Expr} {n : Str} {p : Pos} (hn : n = "range") (hg : Gl X n) (hm : X.mg n = none) (h : PE X a (tE X.K EC W ma)) (n1 : noStar a = true) :
    PI X tg (.Call (.Name n p) [a] [] pos) (tSr X.K EC W (((frz ma).bind fun d => (M.pure []).bind fun ds => M.pure (d :: ds)).bind fun ds => lift (rngD ds))) := by
  subst hn
  refine piW (pi_range1 hg hm (pa_cons (pe_frz h) pa_nil (star_cons n1 _)) (star_cons n1 _)) fun σ H R ⟨F, s, k, w⟩ => ⟨F, s, k, w.bind.bind.mono fun d s1 hd v H1 ad => ?_⟩
  have hd : Wp X.K EC W F s σ H (lift (rngD [d]) s1) _ := hd
  obtain ⟨r, e, hd⟩ := hd.lift
  cases d with
  | int n =>
    have e : (if -(2 ^ 62) ≤ n ∧ n < 2 ^ 62 then some ((List.range n.toNat).map fun (i : Nat) => PyData.int (i : Int)) else none) = some r := e
    split at e
    · rename_i c
      cases e
      cases ad.rp
      refine ⟨n, rfl, c.1, c.2, hd _ _ ad.ok ad.fr ?_⟩
      have z := J_rng (K := X.K) (N := Nn F s1 σ) (H := H1) 0 n.toNat
      simpa using z
    · cases e
  | _ => cases e
theorem W_rng2 {tg : Expr} {n : Str} {p : Pos} (hn : n = "range") (hg : Gl X n) (hm : X.mg n = none) (h : PE X a (tE X.K EC W ma)) (h2 : PE X b (tE X.K EC W mb)) (n1 : noStar a = true) (n2 : noStar b = true) :
    PI X tg (.Call (.Name n p) [a, b] [] pos) (tSr X.K EC W (((frz ma).bind fun d => ((frz mb).bind fun d => (M.pure []).bind fun ds => M.pure (d :: ds)).bind fun ds => M.pure (d :: ds)).bind fun ds => lift (rngD ds))) := by
  subst hn
  refine piW (pi_range2 hg hm (pa_cons (pe_frz h) (pa_cons (pe_frz h2) pa_nil (star_cons n2 _)) (star_cons n1 _)) (by rw [star_cons n1, star_cons n2] <;> rfl) (star_cons n2 _)) fun σ H R ⟨F, s, k, w⟩ => ⟨F, s, k, w.bind.bind.mono fun d s1 hd v H1 ad => ?_⟩
  refine ⟨F, s1, ad.ok, ((hd.on ad.fr).bind.bind).mono fun d2 s2 hd v2 H2 ad2 => ?_⟩
  have hd : Wp X.K EC W F s σ H (lift (rngD [d, d2]) s2) _ := hd
  obtain ⟨r, e, hd⟩ := hd.lift
  have r1 := Rp.mono ad2.fr.le _ _ ad.rp
  cases d with
  | int n =>
    cases d2 with
    | int k2 =>
      have e : (if -(2 ^ 62) ≤ n ∧ n < 2 ^ 62 ∧ -(2 ^ 62) ≤ k2 ∧ k2 < 2 ^ 62 then some ((List.range (k2 - n).toNat).map fun (i : Nat) => PyData.int (n + (i : Int))) else none) = some r := e
      split at e
      · rename_i c
        cases e
        cases r1
        cases ad2.rp
        exact ⟨n, k2, rfl, c, hd _ _ ad2.ok (ad.fr.trans ad2.fr) (J_rng n (k2 - n).toNat)⟩
      · cases e
    | _ => cases e
  | _ => cases e
/-! ### two things at once -/
theorem J_pair {K : PySem.W.Frag} {N1 : NS} {H1 : Hp} (hd : Dm N1 H1) {T : Addr} {x y : V} {d d' : D} (hT : H1 T = none) (r : Rp K (Hid N1 H1) x d) (r' : Rp K (Hid N1 H1) y d') :
    (upd H1 T (.tup [x, y]) = H1 ∨ ∃ p o, H1 p = none ∧ upd H1 T (.tup [x, y]) = upd H1 p o) ∧ Rp K (Hid N1 (upd H1 T (.tup [x, y]))) (.ref T) (.tuple [d, d']) :=
  ⟨.inr ⟨T, _, hT, rfl⟩, hd.tup hT (.cons r (.cons r' .nil))⟩
theorem zip_get {ds es : List D} {i : Nat} {d : D} (h : ((ds.zip es).map fun p => PyData.tuple [p.1, p.2])[i]? = some d) : ∃ x y, ds[i]? = some x ∧ es[i]? = some y ∧ d = .tuple [x, y] := by
  rw [List.getElem?_map] at h
  obtain ⟨⟨x, y⟩, e, rfl⟩ := Option.map_eq_some_iff.mp h
  obtain ⟨e1, e2⟩ := List.getElem?_zip_eq_some.mp e
  exact ⟨x, y, e1, e2, rfl⟩
theorem zip_none {ds es : List D} {i : Nat} (h : ((ds.zip es).map fun p => PyData.tuple [p.1, p.2])[i]? = none) : ds.length ≤ i ∨ es.length ≤ i := by
  have z := List.getElem?_eq_none_iff.mp h
  simp only [List.length_map, List.length_zip] at z
  omega
theorem J_zipL {K : PySem.W.Frag} {N : NS} {H : Hp} {a b : Addr} {vs ws : List V} {ds es : List D} (h : RdK K (Hid N H) a vs) (r : RpA K (Hid N H) vs ds) (h' : RdK K (Hid N H) b ws) (r' : RpA K (Hid N H) ws es) :
    JOk K N H ((ds.zip es).map fun p => .tuple [p.1, p.2]) (Itz K a b) := fun N1 H1 hd l i => by
  have h1 : SqL K H1 a vs := (hid_le.rdK (l.rdK h)).sqL
  have h2 : SqL K H1 b ws := (hid_le.rdK (l.rdK h')).sqL
  refine ⟨fun d e => ?_, fun e => ⟨vs, ws, h1, h2, by rw [r.length, r'.length]; exact zip_none e⟩⟩
  obtain ⟨x, y, e1, e2, rfl⟩ := zip_get e
  obtain ⟨v, f1, g1⟩ := r.get e1
  obtain ⟨u, f2, g2⟩ := r'.get e2
  refine ⟨⟨vs, ws, v, u, h1, h2, f1, f2⟩, fun z H2 q => ?_⟩
  obtain ⟨T, x', y', rfl, hT, rfl, q1, q2⟩ := q
  cases (q1 vs h1).symm.trans f1
  cases (q2 ws h2).symm.trans f2
  exact J_pair hd hT (Rp.mono l _ _ g1) (Rp.mono l _ _ g2)
theorem J_zipT {K : PySem.W.Frag} {N : NS} {H : Hp} {a b : Addr} {vs ws : List V} {ds es : List D} (h : SqT K (Hid N H) a vs) (r : RpA K (Hid N H) vs ds) (h' : SqT K (Hid N H) b ws) (r' : RpA K (Hid N H) ws es) :
    JOk K N H ((ds.zip es).map fun p => .tuple [p.1, p.2]) (ItzT K a b) := fun N1 H1 hd l i => by
  have h1 : SqT K H1 a vs := hid_le.sqT (l.sqT h)
  have h2 : SqT K H1 b ws := hid_le.sqT (l.sqT h')
  refine ⟨fun d e => ?_, fun e => ⟨vs, ws, h1, h2, by rw [r.length, r'.length]; exact zip_none e⟩⟩
  obtain ⟨x, y, e1, e2, rfl⟩ := zip_get e
  obtain ⟨v, f1, g1⟩ := r.get e1
  obtain ⟨u, f2, g2⟩ := r'.get e2
  refine ⟨⟨vs, ws, v, u, h1, h2, f1, f2⟩, fun z H2 q => ?_⟩
  obtain ⟨T, x', y', rfl, hT, rfl, q1, q2⟩ := q
  cases (q1 vs h1).symm.trans f1
  cases (q2 ws h2).symm.trans f2
  exact J_pair hd hT (Rp.mono l _ _ g1) (Rp.mono l _ _ g2)
theorem W_zip {elts : List Expr} {kk : Nat} {tp : Pos} {n : Str} {p : Pos} (hn : n = "zip") (hg : Gl X n) (hm : X.mg n = none) (h : PE X a (tE X.K EC W ma)) (h2 : PE X b (tE X.K EC W mb)) (n1 : noStar a = true) (n2 : noStar b = true) :
    PI X (.Tuple elts kk tp) (.Call (.Name n p) [a, b] [] pos) (tSr X.K EC W ((frz ma).bind fun x => (frz mb).bind fun y => lift (zipD x y))) := by
  subst hn
  refine piW (pi_zipA hg hm (pa_cons (pe_frz h) (pa_cons (pe_frz h2) pa_nil (star_cons n2 _)) (star_cons n1 _)) (star_cons n1 _) (star_all [b] pos X.env (by rw [List.all_cons, n2] <;> rfl))) fun σ H R ⟨F, s, k, w⟩ => ⟨F, s, k, w.bind.mono fun d s1 hd v H1 ad => ?_⟩
  refine ⟨F, s1, ad.ok, ((hd.on ad.fr).bind).mono fun d2 s2 hd v2 H2 ad2 => ?_⟩
  obtain ⟨r, e, hd⟩ := hd.lift
  have r1 := Rp.mono ad2.fr.le _ _ ad.rp
  unfold zipD at e
  split at e
  · cases e
    cases r1 with
    | lst q1 q2 =>
      cases ad2.rp with
      | lst q3 q4 => exact ⟨_, _, _, _, rfl, .inl ⟨(hid_le.rdK q1).sqL, (hid_le.rdK q3).sqL, hd _ _ ad2.ok (ad.fr.trans ad2.fr) (J_zipL q1 q2 q3 q4)⟩⟩
  · cases e
    cases r1 with
    | tup q1 q2 =>
      cases ad2.rp with
      | tup q3 q4 => exact ⟨_, _, _, _, rfl, .inr ⟨hid_le.sqT q1, hid_le.sqT q3, hd _ _ ad2.ok (ad.fr.trans ad2.fr) (J_zipT q1 q2 q3 q4)⟩⟩
  · cases e
/-! ### numbered, backwards -/
theorem J_enu {K : PySem.W.Frag} {N : NS} {H : Hp} {a : Addr} {vs : List V} {ds : List D} (h : RdK K (Hid N H) a vs) (r : RpA K (Hid N H) vs ds) : JOk K N H (ds.zipIdx.map fun p => .tuple [.int (p.2 : Int), p.1]) (Ite K a) := fun N1 H1 hd l i => by
  have h1 : SqL K H1 a vs := (hid_le.rdK (l.rdK h)).sqL
  refine ⟨fun d e => ?_, fun e => ⟨vs, h1, ?_⟩⟩
  · rw [List.getElem?_map, List.getElem?_zipIdx] at e
    obtain ⟨⟨x, j⟩, e1, rfl⟩ := Option.map_eq_some_iff.mp e
    obtain ⟨y, e2, e3⟩ := Option.map_eq_some_iff.mp e1
    cases e3
    obtain ⟨v, f1, g1⟩ := r.get e2
    refine ⟨⟨vs, v, h1, f1⟩, fun z H2 q => ?_⟩
    obtain ⟨T, x', rfl, hT, rfl, q1⟩ := q
    cases (q1 vs h1).symm.trans f1
    have z := J_pair hd hT (.int (i : Int)) (Rp.mono l _ _ g1)
    simpa using z
  · have z := List.getElem?_eq_none_iff.mp e
    rw [r.length]
    simpa using z
theorem J_rev {K : PySem.W.Frag} {N : NS} {H : Hp} {a : Addr} {vs : List V} {ds : List D} (h : RdK K (Hid N H) a vs) (r : RpA K (Hid N H) vs ds) : JOk K N H ds.reverse (Itv K a vs.length) := fun N1 H1 hd l i => by
  have h1 : SqL K H1 a vs := (hid_le.rdK (l.rdK h)).sqL
  have hl := r.length
  refine ⟨fun d e => ?_, fun e => ?_⟩
  · have hi : i < ds.length := by
      have := (List.getElem?_eq_some_iff.mp e).1
      simpa using this
    rw [List.getElem?_reverse hi] at e
    obtain ⟨v, f1, g1⟩ := r.get e
    rw [← hl] at f1
    refine ⟨⟨by rw [hl]; exact hi, vs, v, h1, f1⟩, fun z H2 q => ?_⟩
    obtain ⟨rfl, q⟩ := q
    cases (q vs h1).symm.trans f1
    exact ⟨.inl rfl, Rp.mono l _ _ g1⟩
  · have z := List.getElem?_eq_none_iff.mp e
    show vs.length ≤ i
    rw [hl]
    simpa using z
theorem J_revT {K : PySem.W.Frag} {N : NS} {H : Hp} {a : Addr} {vs : List V} {ds : List D} (h : SqT K (Hid N H) a vs) (r : RpA K (Hid N H) vs ds) : JOk K N H ds.reverse (ItvT K a vs.length) := fun N1 H1 hd l i => by
  have h1 : SqT K H1 a vs := hid_le.sqT (l.sqT h)
  have hl := r.length
  refine ⟨fun d e => ?_, fun e => ?_⟩
  · have hi : i < ds.length := by
      have := (List.getElem?_eq_some_iff.mp e).1
      simpa using this
    rw [List.getElem?_reverse hi] at e
    obtain ⟨v, f1, g1⟩ := r.get e
    rw [← hl] at f1
    refine ⟨⟨by rw [hl]; exact hi, vs, v, h1, f1⟩, fun z H2 q => ?_⟩
    obtain ⟨rfl, q⟩ := q
    cases (q vs h1).symm.trans f1
    exact ⟨.inl rfl, Rp.mono l _ _ g1⟩
  · have z := List.getElem?_eq_none_iff.mp e
    show vs.length ≤ i
    rw [hl]
    simpa using z
theorem W_rvd {tg : Expr} {n : Str} {p : Pos} (hn : n = "reversed") (hg : Gl X n) (hm : X.mg n = none) (h : PE X a (tE X.K EC W ma)) (n1 : noStar a = true) : PI X tg (.Call (.Name n p) [a] [] pos) (tSr X.K EC W ((frz ma).bind fun x => lift (revD x))) := by
  subst hn
  refine piW (pi_revA hg hm (pe_frz h) (star_cons n1 _)) fun σ H R ⟨F, s, k, w⟩ => ⟨F, s, k, w.bind.mono fun d s1 hd v H1 ad => ?_⟩
  obtain ⟨r, e, hd⟩ := hd.lift
  cases d with
  | list xs =>
    cases (show some xs.reverse = some r from e)
    cases ad.rp with
    | lst q1 q2 => exact ⟨_, _, rfl, .inl ⟨(hid_le.rdK q1).sqL, hd _ _ ad.ok ad.fr (J_rev q1 q2)⟩⟩
  | tuple xs =>
    cases (show some xs.reverse = some r from e)
    cases ad.rp with
    | tup q1 q2 => exact ⟨_, _, rfl, .inr ⟨hid_le.sqT q1, hd _ _ ad.ok ad.fr (J_revT q1 q2)⟩⟩
  | _ => cases e
end
end Hg
set_option Elab.async false
set_option linter.all false
set_option maxRecDepth 100000
/-! enumerate of a tuple. -/
namespace Hg
open PySem PySem.Spec PyProof.Rows L2
open Sem (wp)
set_option maxHeartbeats 1000000 in
theorem meets_enuB {v : Value} {o : Obj} {H : Heap → Prop} (B : Begins v o H) :
    Meets (Builtin.«enumerate.__new__» ⟨[.type "enumerate", v], []⟩) (fun _ R s => H s.heap ∧
      R (.ok (.ret (.ref (s.heap.push o).objs.size))) { s with heap := (s.heap.push o).push { cls := .type "enumerate", data := .fields #[.none, .bool false, .ref s.heap.objs.size, rawInt 0, .none, .none] } }) :=
  .of_wp fun prog w A R s h => by
    obtain ⟨hp, g, d, tk, os⟩ := s; obtain ⟨h1, h⟩ := h
    have hsub := sub_enumerate
    have q1 : ∀ {A' : Around} {E : Value → Shared → Prop} {Q : Value → Shared → Prop}, Q (.ref hp.objs.size) ⟨hp.push o, g, d, tk, os⟩ → wpAny (model prog w) A' (pyIter v) Q E ⟨hp, g, d, tk, os⟩ :=
      fun q => B.iter prog w _ _ ⟨hp, g, d, tk, os⟩ _ h1 q
    wp_walk using q1
    refine wpAny_stack_any fun st => wpAny_pure ?_
    split
    · rename_i c _ _ _ _ _
      cases (c == Value.type "enumerate")
      · wp_walk using q1
        exact ⟨_, rfl, h⟩
      · wp_walk using q1
        exact ⟨_, rfl, h⟩
    · wp_walk using q1
      exact ⟨_, rfl, h⟩
section
variable {prog : Program} {w : World} {A : Around} {E : Value → Shared → Prop} {s : Shared}
theorem enu_begins {v : Value} {o : Obj} {H : Heap → Prop} {Q : Value → Shared → Prop} (B : Begins v o H) (h1 : H s.heap)
    (h : ∀ h', IsEnum h' (s.heap.objs.size + 1) s.heap.objs.size 0 .none → h'.get? s.heap.objs.size = some o → h'.objs.size = s.heap.objs.size + 2 →
      (∀ b o, s.heap.get? b = some o → h'.get? b = some o) → Q (.ref (s.heap.objs.size + 1)) { s with heap := h' }) :
    wpAny (model prog w) A (call (.type "enumerate") [v]) Q E s := by
  refine callType_new F.called_enumerate (by decide) (F.typeCall_enumerate_1 _) (F.newCall_enumerate_1 _) (fun obj => F.args_object_init_2 obj _) F.entry_enumerate_new
    (meets_enuB B) ⟨h1, ?_⟩
  have hz : (s.heap.push o).objs.size = s.heap.objs.size + 1 := Heap.size_push ..
  show _ ∧ _
  rw [hz]
  have he : IsEnum ((s.heap.push o).push { cls := .type "enumerate", data := .fields #[.none, .bool false, .ref s.heap.objs.size, rawInt 0, .none, .none] }) (s.heap.objs.size + 1) s.heap.objs.size 0 .none := by
    have := Heap.get?_push_size (s.heap.push o) (o := { cls := .type "enumerate", data := .fields #[.none, .bool false, .ref s.heap.objs.size, rawInt 0, .none, .none] }) rfl
    rw [hz] at this; exact this
  refine ⟨⟨_, he, rfl⟩, h _ he (Heap.get?_push_of_some _ (Heap.get?_push_size _ B.free)) (by rw [Heap.size_push, hz]) fun b o x => Heap.get?_push_of_some _ (Heap.get?_push_of_some _ x)⟩
end
section
variable {prog : Program} {w : World} {A : Around} {E : Value → Shared → Prop} {s : Shared}
theorem enuT_end {e it a : Addr} {items : Array Value} {j : Int} {i : Nat} {old : Value} {Q : Option Value → Shared → Prop} (hh : A.in1.handled = none) (he : IsEnum s.heap e it j old) (hit : s.heap.IsTupleIter it a i) (ht : s.heap.IsTuple a items) (hx : items[i]? = none)
    (hQ : ∀ h', Heap.ExtBut it s.heap h' → Q none { s with heap := h' }) : wpAny (model prog w) A (pyNext (.ref e)) Q E s := by
  have hT : s.TypeIs (.ref e) "enumerate" := ⟨_, he, rfl⟩
  unfold pyNext
  refine wpAny_bind (wpAny_attempt (wpAny_callSpecial?_slot (name := Str.ofString "__next__") hT F.slot_enumerate_next
    (wpAny_call_entry F.slot_enumerate_next hT F.entry_enumerate_next ?_ (F.args_enumerate_next_1 _))))
  show wpAny _ _ (field (.ref e) 2 >>= _) _ _ _
  refine wpAny_bind (wpAny_field he rfl (x := .ref it) rfl ?_)
  refine wpAny_bind (wpAny_nextOf_tuple_end hh hit ht hx fun h' x he' hx' => ?_)
  obtain ⟨o, ho, hc⟩ := hx'
  refine wpAny_bind (wpAny_isInstance (T := "StopIteration") (b := true) ⟨o, ho, hc⟩ isSubtype_stop ?_)
  exact wpAny_pure (hQ _ he')
end
/-- the tuple at a as it stands at each turn, each item in a new pair -/
def Iet (K : PySem.W.Frag) (a : Addr) : It :=
  ⟨fun i H => ∃ (xs : List V) (x : V), SqT K H a xs ∧ xs[i]? = some x, fun i H v H' => ∃ T x, v = .ref T ∧ H T = none ∧ H' = upd H T (.tup [.int (i : Nat), x]) ∧ ∀ xs, SqT K H a xs → xs[i]? = some x, fun i H => ∃ xs : List V, SqT K H a xs ∧ xs.length ≤ i⟩
theorem turn_enuT {P : Program} {w : World} {K : PySem.W.Frag} {elts : List Expr} {kk : Nat} {tpos : Pos} (a e it : Addr) (hai : a ≠ it) (hea : e ≠ a) :
    Turn P w K (.Tuple elts kk tpos) (Iet K a) [e, it] e (fun i h => (∃ old, IsEnum h e it ((i : Nat) : Int) old) ∧ h.IsTupleIter it a i ∧ e ≠ it) where
  mem := by simp
  obj := fun i h st b hb => by
    obtain ⟨⟨old, he⟩, ⟨o, ho, hc, hd⟩, _⟩ := st
    have e' : b = e ∨ b = it := by simpa using hb
    rcases e' with z | z
    · rw [z]; exact ⟨_, he, fun v q => nomatch q⟩
    · rw [z]; exact ⟨o, ho, fun v q => by rw [hd] at q; cases q⟩
  keep := fun i h h' st k => let ⟨⟨old, he⟩, hi, hne⟩ := st; ⟨⟨old, k e (by simp) _ he⟩, hi.at fun o q => k it (by simp) o q, hne⟩
  item := by
    intro X hP hw hK hc i pins s σ H E I hf st hg
    subst hP hw hK
    obtain ⟨⟨old, he⟩, hit, hne⟩ := st
    obtain ⟨xs, x, hq, hx⟩ := hg
    obtain ⟨its, rv, p, hz⟩ := I.tuple hq
    obtain ⟨u, hu, ru⟩ := rv.get hx
    have hel : e < s.heap.objs.size := Heap.lt_size he
    have hil : it < s.heap.objs.size := by obtain ⟨_, q, _⟩ := hit; exact Heap.lt_size q
    have hlt : i < its.toArray.size := by
      have := (List.getElem?_eq_some_iff.mp hu).1
      simpa using this
    have D := Draws.tuple (prog := X.prog) (w := X.w) (A := X.A.in1) (I.ok.hd hc) it a hai its.toArray
    refine wpAny_pyNext_enum_itemC (c := ((i : Nat) : Int)) D he ⟨hit, p⟩ hlt hne (by simp [hne, hea]) fun y h' tk hy ho hst' hT hsz hk => ?_
    obtain ⟨hit', _⟩ := hst'
    have hy : its.toArray[i]? = some y := hy
    have hyu : y = u := by
      have z : its.toArray[i]? = some u := by simpa using hu
      exact Option.some.inj (hy.symm.trans z)
    subst hyu
    refine ⟨_, rfl, wpAny_letOwnedTupleGo_enum (s := { s with heap := h', toks := tk + 1 }) ho fun h'' he' sb => ?_⟩
    have hT2 : h''.get? s.heap.objs.size = some { cls := .type "tuple", data := .seq #[.int i tk, y] } := (sb.2 _ (Nat.ne_of_gt hel)).trans hT
    have new : ObjOk X.prog X.w (upd H s.heap.objs.size (.tup [.int (i : Nat), x])) h'' s.heap.objs.size (.tup [.int (i : Nat), x]) :=
      ⟨by show 2 ≤ sizeLine; decide, [.int i tk, y], .cons ⟨_, rfl⟩ (.cons ru .nil), ⟨_, hT2, rfl, _, rfl⟩⟩
    have I1 : Inv X pins σ (upd H s.heap.objs.size (.tup [.int (i : Nat), x])) { s with heap := h'', toks := tk + 1 } :=
      I.turnedNew (ch := [e, it]) (fun b ob hb q => (sb.2 b (fun z => hb (by simp [z]))).trans (hk b ob (fun z => hb (by simp [z])) (fun z => hb (by simp [z])) q)) hf (Nat.le_refl _) new
    refine ⟨.ref s.heap.objs.size, _, I1, rfl, ⟨_, x, rfl, I.hok.fresh (Nat.le_refl _), rfl, fun ys hy => by rw [I.tuple_inj hy hq]; exact hx⟩, ⟨⟨y, ?_⟩, hit'.at fun o q => (sb.2 it (Ne.symm hne)).trans q, hne⟩, fun b hb => ?_⟩
    · have e1 : ((i + 1 : Nat) : Int) = (i : Int) + 1 := by omega
      rw [e1]; exact he'
    · have hb' : b < s.heap.objs.size := by
        have e' : b = e ∨ b = it := by simpa using hb
        rcases e' with z | z
        · rw [z]; exact hel
        · rw [z]; exact hil
      rw [upd_ne (Nat.ne_of_lt hb')]
      exact (hf b hb).1
  done := by
    intro X hP hw hK hc i pins s σ H E I hf st hg
    subst hP hw hK
    obtain ⟨⟨old, he⟩, hit, hne⟩ := st
    obtain ⟨xs, hq, hx⟩ := hg
    obtain ⟨its, rv, p, hz⟩ := I.tuple hq
    obtain ⟨f0, f1, f2, f3, f4, f5⟩ := hf it (by simp)
    have hl := rv.length
    exact enuT_end (I.ok.hd hc) he hit p (by simp; omega) fun h' eb => ⟨rfl, I.turned (t' := s.toks) (fun b o hb q => eb b o hb q) f0 f1 f3 f4 f5⟩
  self := fun A i s Q E st h => let ⟨⟨_, he⟩, _⟩ := st; wpAny_pyIter_enum he h
def iEnuA (K : PySem.W.Frag) (ta : TA) : TI := fun σ H R => ta σ H fun vs H1 => ∃ a xs, vs = [.ref a] ∧ ((SqL K H1 a xs ∧ R (Ite K a) H1) ∨ (SqT K H1 a xs ∧ R (Iet K a) H1))
theorem pi_enuA {X : Cx} {e : Expr} {ta : TA} {p pos tpos : Pos} {elts : List Expr} {kk : Nat} (hg : Gl X "enumerate") (hm : X.mg "enumerate" = none) (ha : PA X [e] ta) (hs : starEach [e] X.env = [(false, eval e X.env)] := by rfl) :
    PI X (.Tuple elts kk tpos) (.Call (.Name "enumerate" p) [e] [] pos) (iEnuA X.K ta) := by
  refine ⟨fun pins s σ H R I h => ?_⟩
  refine Call_ (ld_blt I hg hm boot_enumerate (PyProof.Rows.callWith_type1 (thn (ha.run pos pins s σ H _ I h) fun us s1 ⟨vs, H1, I1, r1, q1⟩ => ?_) hs rfl))
  obtain ⟨a, xs, ex, q1⟩ := q1
  subst ex
  have fp : ∀ b, b ∈ [s1.heap.objs.size + 1, s1.heap.objs.size] → FpOk X pins H1 b := fun b hb => by
    have e' : b = s1.heap.objs.size + 1 ∨ b = s1.heap.objs.size := by simpa using hb
    have hle : s1.heap.objs.size ≤ b := by
      rcases e' with z | z
      · rw [z]; exact Nat.le_add_right _ _
      · rw [z]; exact Nat.le_refl _
    exact I1.fpOk hle (I1.hok.fresh hle)
  cases r1 with
  | cons r rr =>
    cases rr
    cases r
    rcases q1 with ⟨hq, q⟩ | ⟨hq, q⟩
    · obtain ⟨its, rv, p', hz⟩ := I1.list hq
      refine call_enumerate_list p'.isList fun h' he hit hsz hk => wpAny_pyIter_enum he ?_
      have I2 : Inv X pins σ H1 { s1 with heap := h' } := I1.kept (t' := s1.toks) hk
      exact ⟨s1.heap.objs.size + 1, [s1.heap.objs.size + 1, s1.heap.objs.size], _, _, H1, rfl, I2, turn_enum a (s1.heap.objs.size + 1) s1.heap.objs.size, ⟨⟨.none, he⟩, hit, Nat.succ_ne_self _⟩, fp, q⟩
    · obtain ⟨its, rv, p', hz⟩ := I1.tuple hq
      have hlt : a < s1.heap.objs.size := by
        obtain ⟨o1, ho1, _⟩ := id p'
        exact Heap.lt_size ho1
      refine enu_begins (begins_tuple a its.toArray) p' fun h' he hit hsz hk => wpAny_pyIter_enum he ?_
      have I2 : Inv X pins σ H1 { s1 with heap := h' } := I1.kept (t' := s1.toks) hk
      exact ⟨s1.heap.objs.size + 1, [s1.heap.objs.size + 1, s1.heap.objs.size], _, _, H1, rfl, I2, turn_enuT a (s1.heap.objs.size + 1) s1.heap.objs.size (Nat.ne_of_lt hlt) (Ne.symm (Nat.ne_of_lt (Nat.lt_succ_of_lt hlt))), ⟨⟨.none, he⟩, ⟨_, hit, rfl, rfl⟩, Nat.succ_ne_self _⟩, fp, q⟩
theorem J_enuT {K : PySem.W.Frag} {N : NS} {H : Hp} {a : Addr} {vs : List V} {ds : List D} (h : SqT K (Hid N H) a vs) (r : RpA K (Hid N H) vs ds) : JOk K N H (ds.zipIdx.map fun p => .tuple [.int (p.2 : Int), p.1]) (Iet K a) := fun N1 H1 hd l i => by
  have h1 : SqT K H1 a vs := hid_le.sqT (l.sqT h)
  refine ⟨fun d e => ?_, fun e => ⟨vs, h1, ?_⟩⟩
  · rw [List.getElem?_map, List.getElem?_zipIdx] at e
    obtain ⟨⟨x, j⟩, e1, rfl⟩ := Option.map_eq_some_iff.mp e
    obtain ⟨y, e2, e3⟩ := Option.map_eq_some_iff.mp e1
    cases e3
    obtain ⟨v, f1, g1⟩ := r.get e2
    refine ⟨⟨vs, v, h1, f1⟩, fun z H2 q => ?_⟩
    obtain ⟨T, x', rfl, hT, rfl, q1⟩ := q
    cases (q1 vs h1).symm.trans f1
    have z := J_pair hd hT (.int (i : Int)) (Rp.mono l _ _ g1)
    simpa using z
  · have z := List.getElem?_eq_none_iff.mp e
    rw [r.length]
    simpa using z
end Hg
set_option Elab.async false
set_option linter.all false
set_option maxRecDepth 100000
set_option maxHeartbeats 400000
/-! Targets, comprehensions. -/
namespace Hg
open PySem PySem.Spec PyProof.Rows L2 RZ RT
section
variable {K : PySem.W.Frag} {F : NS} {s s1 s' : S} {σ σ1 σ' : L2.St} {H H1 H' : Hp}
/-- fewer slots told -/
theorem StOk.sub (k : StOk K F s σ H) (hl : s'.length = σ'.length) (h : ∀ (j : Nat) (x : Sl), s'[j]? = some x → x ≠ .un → s[j]? = some x ∧ σ'[j]? = σ[j]?) : StOk K F s' σ' H ∧ Fr F (Nn F s σ) H (Nn F s' σ') H := by
  have own' : ∀ b, Own s' σ' b → Own s σ b := fun b ⟨j, o, e1, e2⟩ => by
    obtain ⟨f1, f2⟩ := h j _ e1 (fun z => nomatch z)
    exact ⟨j, o, f1, f2 ▸ e2⟩
  have nn : ∀ b, Nn F s' σ' b → Nn F s σ b := fun b z => z.imp id (own' b)
  have l : Le (Hid (Nn F s σ) H) (Hid (Nn F s' σ') H) := fun b u _ z => by
    obtain ⟨a, z⟩ := hid_iff.mp z
    exact hid_iff.mpr ⟨fun y => a (nn b y), z⟩
  refine ⟨⟨hl, fun j d e => ?_, fun j o e => ?_, fun i j o o' p e e' g g' => ?_, fun b z => k.ap b (own' b z), k.dom, k.tb⟩, ⟨fun _ _ => rfl, fun b u n _ z => ⟨z, fun y => n (nn b y)⟩⟩⟩
  · obtain ⟨f1, f2⟩ := h j _ e (fun z => nomatch z)
    obtain ⟨v, e1, r⟩ := k.sh j d f1
    exact ⟨v, f2.trans e1, Rp.mono l _ _ r⟩
  · obtain ⟨f1, f2⟩ := h j _ e (fun z => nomatch z)
    obtain ⟨p, e1, r⟩ := k.ow j o f1
    exact ⟨p, f2.trans e1, r.mono rfl l⟩
  · obtain ⟨f1, f2⟩ := h i _ e (fun z => nomatch z)
    obtain ⟨f3, f4⟩ := h j _ e' (fun z => nomatch z)
    exact k.inj i j o o' p f1 f3 (f2 ▸ g) (f4 ▸ g')
/-- data stored in a slot -/
theorem StOk.put (k : StOk K F s σ H) {i : Nat} {v : V} {d : D} (hi : i < s.length) (r : Rp K (Hid (Nn F s σ) H) v d) : StOk K F (s.set i (.sh d)) (σ.set i (some v)) H ∧ Fr F (Nn F s σ) H (Nn F (s.set i (.sh d)) (σ.set i (some v))) H := by
  obtain ⟨k1, f1⟩ := k.sub (s' := s.set i .un) (σ' := σ.set i (some v)) (by rw [List.length_set, List.length_set]; exact k.len) fun j x e hx => by
    by_cases hj : j = i
    · subst hj
      rw [List.getElem?_set_self hi] at e
      cases e
      exact absurd rfl hx
    · rw [List.getElem?_set_ne (Ne.symm hj)] at e
      exact ⟨e, by rw [List.getElem?_set_ne (Ne.symm hj)]⟩
  have hiσ : i < σ.length := by rw [← k.len]; exact hi
  have own' : ∀ b, Own (s.set i (.sh d)) (σ.set i (some v)) b ↔ Own (s.set i .un) (σ.set i (some v)) b := fun b => by
    constructor
    · rintro ⟨j, o, e1, e2⟩
      by_cases hj : j = i
      · subst hj
        rw [List.getElem?_set_self hi] at e1
        cases e1
      · rw [List.getElem?_set_ne (Ne.symm hj)] at e1
        exact ⟨j, o, by rw [List.getElem?_set_ne (Ne.symm hj)]; exact e1, e2⟩
    · rintro ⟨j, o, e1, e2⟩
      by_cases hj : j = i
      · subst hj
        rw [List.getElem?_set_self hi] at e1
        cases e1
      · rw [List.getElem?_set_ne (Ne.symm hj)] at e1
        exact ⟨j, o, by rw [List.getElem?_set_ne (Ne.symm hj)]; exact e1, e2⟩
  have nn : Nn F (s.set i (.sh d)) (σ.set i (some v)) = Nn F (s.set i .un) (σ.set i (some v)) := by
    funext b
    exact propext (or_congr Iff.rfl (own' b))
  refine ⟨⟨by rw [List.length_set, List.length_set]; exact k.len, fun j d' e => ?_, fun j o e => ?_, fun a b o o' p e e' g g' => ?_, fun b z => k1.ap b ((own' b).mp z), k1.dom, k1.tb⟩, by rw [nn]; exact f1⟩
  · rw [nn]
    by_cases hj : j = i
    · subst hj
      rw [List.getElem?_set_self hi] at e
      cases e
      exact ⟨v, List.getElem?_set_self hiσ, Rp.mono f1.le _ _ r⟩
    · rw [List.getElem?_set_ne (Ne.symm hj)] at e
      exact k1.sh j d' (by rw [List.getElem?_set_ne (Ne.symm hj)]; exact e)
  · rw [nn]
    by_cases hj : j = i
    · subst hj
      rw [List.getElem?_set_self hi] at e
      cases e
    · rw [List.getElem?_set_ne (Ne.symm hj)] at e
      exact k1.ow j o (by rw [List.getElem?_set_ne (Ne.symm hj)]; exact e)
  · have back : ∀ {j : Nat} {u : Ob}, (s.set i (.sh d))[j]? = some (.ow u) → (s.set i .un)[j]? = some (.ow u) := fun {j u} e => by
      by_cases hj : j = i
      · subst hj
        rw [List.getElem?_set_self hi] at e
        cases e
      · rw [List.getElem?_set_ne (Ne.symm hj)] at e ⊢
        exact e
    exact k1.inj a b o o' p (back e) (back e') g g'
/-- behind stores -/
structure AftT (K : PySem.W.Frag) (F : NS) (s : S) (σ : L2.St) (H : Hp) (ix : List Nat) (s' : S) (σ' : L2.St) (H' : Hp) : Prop where
  ok : StOk K F s' σ' H'
  fr : Fr F (Nn F s σ) H (Nn F s' σ') H'
  len : σ'.length = σ.length
  out : ∀ j, j ∉ ix → σ'[j]? = σ[j]?
end
def tPut (K : PySem.W.Frag) (tg : Tg) : TG := fun v σ H Q => ∃ F s d, StOk K F s σ H ∧ Rp K (Hid (Nn F s σ) H) v d ∧ ∃ s', putT tg d s = .ok () s' ∧ ∀ σ', AftT K F s σ H (tgIx tg) s' σ' H → Q σ' H
def tPuts (K : PySem.W.Frag) (tg : Tgs) : TGs := fun vs σ H Q => ∃ F s ds, StOk K F s σ H ∧ RpA K (Hid (Nn F s σ) H) vs ds ∧ ∃ s', putTs tg ds s = .ok () s' ∧ ∀ σ', AftT K F s σ H (tgsIx tg) s' σ' H → Q σ' H
section
variable {X : Cx} {e : Expr} {es : List Expr}
theorem pgW {t t' : TG} (h : PG X e t) (w : ∀ v σ H Q, t' v σ H Q → t v σ H Q) : PG X e t' := ⟨fun pins s σ H v u Q I r q => h.run pins s σ H v u Q I r (w _ _ _ _ q)⟩
theorem pgsW {t t' : TGs} (h : PGs X es t) (w : ∀ v σ H Q, t' v σ H Q → t v σ H Q) : PGs X es t' := ⟨fun pins s σ H v u Q I r q => h.run pins s σ H v u Q I r (w _ _ _ _ q)⟩
theorem pgOr {t t' : TG} (h : PG X e t) (h' : PG X e t') : PG X e (fun v σ H Q => t v σ H Q ∨ t' v σ H Q) := ⟨fun pins s σ H v u Q I r q => q.elim (h.run pins s σ H v u Q I r) (h'.run pins s σ H v u Q I r)⟩
theorem setS_ok {i : Nat} {r : Sl} {s s' : S} {u : Unit} (h : setS i r s = .ok u s') : i < s.length ∧ s' = s.set i r := by
  unfold setS at h
  split at h
  · rename_i c
    cases h
    exact ⟨c, rfl⟩
  · cases h
theorem T_name {i : Nat} (h : PG X e (gName i)) : PG X e (tPut X.K (.name i)) := pgW h fun v σ H Q ⟨F, s, d, k, r, s', e, q⟩ => by
  obtain ⟨hi, rfl⟩ := setS_ok (show setS i (.sh d) s = .ok () s' from e)
  obtain ⟨k1, f1⟩ := k.put hi r
  exact q _ ⟨k1, f1, List.length_set, fun j hj => List.getElem?_set_ne (fun z => hj (by show j ∈ [i]; rw [← z]; exact List.mem_singleton_self i))⟩
theorem T_nil : PGs X [] (tPuts X.K .nil) := pgsW pgs_nil fun vs σ H Q ⟨F, s, ds, k, r, s', e, q⟩ => by
  cases r with
  | nil =>
    have e : R.ok () s = .ok () s' := e
    cases e
    exact ⟨rfl, q _ ⟨k, Fr.refl, rfl, fun _ _ => rfl⟩⟩
  | cons a b => cases (show R.bad = .ok () s' from e)
theorem R.bind_ok {α β : Type} {r : R α} {f : α → S → R β} {b : β} {s' : S} (h : r.bind f = .ok b s') : ∃ a s1, r = .ok a s1 ∧ f a s1 = .ok b s' := by
  cases r with
  | bad => cases h
  | err e s => cases h
  | ok a s1 => exact ⟨a, s1, rfl, h⟩
theorem M.bind_ok {α β : Type} {m : M α} {f : α → M β} {b : β} {s s' : S} (h : (m.bind f) s = .ok b s') : ∃ a s1, m s = .ok a s1 ∧ f a s1 = .ok b s' := R.bind_ok h
theorem assign_cons {env : Env} (h : noStar e = true) : (assignEach (e :: es) env).map (·.2) = assign e env :: (assignEach es env).map (·.2) := by
  cases e <;> first | rfl | (cases h)
theorem assign_len {env : Env} : ∀ {es : List Expr}, es.all noStar = true → (assignEach es env).length = es.length
  | [], _ => rfl
  | e :: es, h => by
    rw [List.all_cons, Bool.and_eq_true] at h
    have ih := assign_len (env := env) h.2
    cases e <;> first | (exact congrArg Nat.succ ih) | (cases h.1)
theorem assign_idx {env : Env} : ∀ {es : List Expr}, es.all noStar = true → (assignEach es env).findIdx? (·.1) = none
  | [], _ => rfl
  | e :: es, h => by
    rw [List.all_cons, Bool.and_eq_true] at h
    have ih := assign_idx (env := env) h.2
    have e1 : assignEach (e :: es) env = (false, assign e env) :: assignEach es env := by
      cases e <;> first | rfl | (cases h.1)
    rw [e1, List.findIdx?_cons, ih]
    rfl
theorem T_cons {t : Tg} {ts : Tgs} (n : noStar e = true) (h : PG X e (tPut X.K t)) (hs : PGs X es (tPuts X.K ts)) : PGs X (e :: es) (tPuts X.K (.cons t ts)) := pgsW (pgs_cons h hs (assign_cons n)) fun vs σ H Q ⟨F, s, ds, k, r, s', e, q⟩ => by
  cases r with
  | nil => cases (show R.bad = .ok () s' from e)
  | @cons v vs d ds a b =>
    obtain ⟨_, s1, e1, e2⟩ := M.bind_ok (show ((putT t d).bind fun _ => putTs ts ds) s = .ok () s' from e)
    refine ⟨v, vs, rfl, F, s, d, k, a, s1, e1, fun σ1 a1 => ⟨F, s1, ds, a1.ok, RpA.mono a1.fr.le _ _ b, s', e2, fun σ2 a2 => q σ2 ⟨a2.ok, a1.fr.trans a2.fr, a2.len.trans a1.len, fun j hj => ?_⟩⟩⟩
    have hj : j ∉ tgIx t ++ tgsIx ts := hj
    rw [List.mem_append, not_or] at hj
    exact (a2.out j hj.2).trans (a1.out j hj.1)
theorem putTs_len : ∀ {ts : Tgs} {ds : List D} {s s' : S}, putTs ts ds s = .ok () s' → ∀ {es : List Expr} {x : Sx}, chTs x ts es = true → ds.length = es.length
  | .nil, [], _, _, _, [], _, _ => rfl
  | .nil, [], _, _, _, _ :: _, _, h => by cases h
  | .nil, _ :: _, _, s', e, _, _, _ => by cases (show R.bad = .ok () s' from e)
  | .cons _ _, [], _, s', e, _, _, _ => by cases (show R.bad = .ok () s' from e)
  | .cons t ts, d :: ds, s, s', e, [], _, h => by cases h
  | .cons t ts, d :: ds, s, s', e, y :: es, x, h => by
    obtain ⟨_, s1, e1, e2⟩ := M.bind_ok (show ((putT t d).bind fun _ => putTs ts ds) s = .ok () s' from e)
    have h : (chT x t y && chTs x ts es) = true := h
    rw [Bool.and_eq_true] at h
    exact congrArg Nat.succ (putTs_len e2 h.2)
theorem T_tup {ts : Tgs} {kk : Nat} {pos : Pos} {x : Sx} (hc : X.calm = true) (h : PGs X es (tPuts X.K ts)) (n : es.all noStar = true) (hx : chTs x ts es = true) : PG X (.Tuple es kk pos) (tPut X.K (.tup ts)) :=
  pgW (pgOr (pg_tup hc h (assign_len n) (assign_idx n)) (pg_lst hc h (assign_len n) (assign_idx n))) fun v σ H Q ⟨F, s, d, k, r, s', e, q⟩ => by
    cases d with
    | tuple ds =>
      have e : putTs ts ds s = .ok () s' := e
      cases r with
      | tup a b => exact .inl ⟨_, _, rfl, hid_le.sqT a, by rw [b.length]; exact putTs_len e hx, F, s, ds, k, b, s', e, q⟩
    | list ds =>
      have e : putTs ts ds s = .ok () s' := e
      cases r with
      | lst a b => exact .inr ⟨_, _, rfl, (hid_le.rdK a).sqL, by rw [b.length]; exact putTs_len e hx, F, s, ds, k, b, s', e, q⟩
    | _ => cases (show R.bad = .ok () s' from e)

/-! ### comprehensions -/
theorem wipe_get {σ : L2.St} : ∀ {vs : List Nat} {j : Nat}, (wipe σ vs)[j]? = if j ∈ vs ∧ j < σ.length then some none else σ[j]?
  | [], j => by
    rw [if_neg (by simp)]
    rfl
  | v :: vs, j => by
    show ((wipe σ vs).set v none)[j]? = _
    by_cases hj : v = j
    · subst hj
      by_cases hl : v < σ.length
      · rw [List.getElem?_set_self (by rw [wipe_length]; exact hl), if_pos ⟨List.mem_cons_self, hl⟩]
      · rw [List.getElem?_eq_none (by rw [List.length_set, wipe_length]; omega), if_neg (fun z => hl z.2), List.getElem?_eq_none (by omega)]
    · rw [List.getElem?_set_ne hj, wipe_get]
      by_cases hm : j ∈ vs ∧ j < σ.length
      · rw [if_pos hm, if_pos ⟨List.mem_cons_of_mem _ hm.1, hm.2⟩]
      · rw [if_neg hm, if_neg (fun z => hm ⟨(List.mem_cons.mp z.1).elim (fun q => absurd q.symm hj) id, z.2⟩)]
theorem wipeS_len (s : S) : ∀ vs : List Nat, (wipeS s vs).length = s.length
  | [] => rfl
  | v :: vs => by
    show ((wipeS s vs).set v .un).length = _
    rw [List.length_set, wipeS_len s vs]
theorem wipeS_get {s : S} : ∀ {vs : List Nat} {j : Nat}, (wipeS s vs)[j]? = if j ∈ vs ∧ j < s.length then some .un else s[j]?
  | [], j => by
    rw [if_neg (by simp)]
    rfl
  | v :: vs, j => by
    show ((wipeS s vs).set v .un)[j]? = _
    by_cases hj : v = j
    · subst hj
      by_cases hl : v < s.length
      · rw [List.getElem?_set_self (by rw [wipeS_len]; exact hl), if_pos ⟨List.mem_cons_self, hl⟩]
      · rw [List.getElem?_eq_none (by rw [List.length_set, wipeS_len]; omega), if_neg (fun z => hl z.2), List.getElem?_eq_none (by omega)]
    · rw [List.getElem?_set_ne hj, wipeS_get]
      by_cases hm : j ∈ vs ∧ j < s.length
      · rw [if_pos hm, if_pos ⟨List.mem_cons_of_mem _ hm.1, hm.2⟩]
      · rw [if_neg hm, if_neg (fun z => hm ⟨(List.mem_cons.mp z.1).elim (fun q => absurd q.symm hj) id, z.2⟩)]
theorem backS_len (s0 s : S) : ∀ vs : List Nat, (backS s0 s vs).length = s.length
  | [] => rfl
  | v :: vs => by
    show ((backS s0 s vs).set v (s0.getD v .un)).length = _
    rw [List.length_set, backS_len s0 s vs]
theorem backS_get {s0 s : S} (hl : s0.length = s.length) : ∀ {vs : List Nat} {j : Nat}, (backS s0 s vs)[j]? = if j ∈ vs then s0[j]? else s[j]?
  | [], j => by
    rw [if_neg (by simp)]
    rfl
  | v :: vs, j => by
    show ((backS s0 s vs).set v (s0.getD v .un))[j]? = _
    by_cases hj : v = j
    · subst hj
      rw [if_pos List.mem_cons_self]
      by_cases hv : v < s.length
      · rw [List.getElem?_set_self (by rw [backS_len]; exact hv), List.getElem?_eq_getElem (by omega)]
        rw [List.getD_eq_getElem?_getD, List.getElem?_eq_getElem (by omega)]
        rfl
      · rw [List.getElem?_eq_none (by rw [List.length_set, backS_len]; omega), List.getElem?_eq_none (by omega)]
    · rw [List.getElem?_set_ne hj, backS_get hl]
      by_cases hm : j ∈ vs
      · rw [if_pos hm, if_pos (List.mem_cons_of_mem _ hm)]
      · rw [if_neg hm, if_neg (fun z => hm ((List.mem_cons.mp z).elim (fun q => absurd q.symm hj) id))]
/-- one's own slots forgotten -/
theorem StOk.wipe {K : PySem.W.Frag} {F : NS} {s : S} {σ σ' : L2.St} {H : Hp} {own : List Nat} (k : StOk K F s σ H) (hl : σ'.length = σ.length) (h : ∀ j, j ∉ own → σ'[j]? = σ[j]?) : StOk K F (wipeS s own) σ' H ∧ Fr F (Nn F s σ) H (Nn F (wipeS s own) σ') H :=
  k.sub (by rw [wipeS_len, hl]; exact k.len) fun j x e hx => by
    rw [wipeS_get] at e
    split at e
    · cases e
      exact absurd rfl hx
    · rename_i c
      refine ⟨e, h j fun z => c ⟨z, ?_⟩⟩
      exact get_lt e
/-- .. and found again -/
theorem StOk.back {K : PySem.W.Frag} {F F1 : NS} {s s' : S} {σ : L2.St} {H H' : Hp} {own : List Nat} (k : StOk K F s σ H) (k' : StOk K F1 s' (L2.wipe σ own) H') (f : Fr F (Nn F s σ) H (Nn F1 s' (L2.wipe σ own)) H') (no : own.all (fun i => notOw (s.getD i .un)) = true) :
    StOk K F1 (backS s s' own) σ H' ∧ Nn F1 (backS s s' own) σ = Nn F1 s' (L2.wipe σ own) := by
  have hl : s.length = s'.length := by
    rw [k.len, k'.len, wipe_length]
  have notow : ∀ {j : Nat} {o : Ob}, j ∈ own → s[j]? ≠ some (.ow o) := fun {j o} hj z => by
    have q := List.all_eq_true.mp no j hj
    rw [List.getD_eq_getElem?_getD, z] at q
    exact Bool.noConfusion q
  have wow : ∀ {j : Nat} {o : Ob}, s'[j]? = some (.ow o) → j ∉ own := fun {j o} z hj => by
    obtain ⟨p, e, _⟩ := k'.ow j o z
    rw [wipe_get, if_pos ⟨hj, by rw [← k.len, hl]; exact get_lt z⟩] at e
    cases e
  have own' : ∀ b, Own (backS s s' own) σ b ↔ Own s' (L2.wipe σ own) b := fun b => by
    constructor
    · rintro ⟨j, o, e1, e2⟩
      rw [backS_get hl] at e1
      by_cases hj : j ∈ own
      · rw [if_pos hj] at e1
        exact absurd e1 (notow hj)
      · rw [if_neg hj] at e1
        exact ⟨j, o, e1, by rw [wipe_get, if_neg (fun z => hj z.1)]; exact e2⟩
    · rintro ⟨j, o, e1, e2⟩
      have hj := wow e1
      rw [wipe_get, if_neg (fun z => hj z.1)] at e2
      exact ⟨j, o, by rw [backS_get hl, if_neg hj]; exact e1, e2⟩
  have nn : Nn F1 (backS s s' own) σ = Nn F1 s' (L2.wipe σ own) := by
    funext b
    exact propext (or_congr Iff.rfl (own' b))
  refine ⟨⟨by rw [backS_len, ← hl]; exact k.len, fun j d e => ?_, fun j o e => ?_, fun i j o o' p e e' g g' => ?_, fun b z => k'.ap b ((own' b).mp z), k'.dom, k'.tb⟩, nn⟩
  · rw [nn]
    rw [backS_get hl] at e
    by_cases hj : j ∈ own
    · rw [if_pos hj] at e
      obtain ⟨v, e1, r⟩ := k.sh j d e
      exact ⟨v, e1, Rp.mono f.le _ _ r⟩
    · rw [if_neg hj] at e
      obtain ⟨v, e1, r⟩ := k'.sh j d e
      rw [wipe_get, if_neg (fun z => hj z.1)] at e1
      exact ⟨v, e1, r⟩
  · rw [nn]
    rw [backS_get hl] at e
    by_cases hj : j ∈ own
    · rw [if_pos hj] at e
      exact absurd e (notow hj)
    · rw [if_neg hj] at e
      obtain ⟨p, e1, r⟩ := k'.ow j o e
      rw [wipe_get, if_neg (fun z => hj z.1)] at e1
      exact ⟨p, e1, r⟩
  · rw [backS_get hl] at e e'
    by_cases hi : i ∈ own
    · rw [if_pos hi] at e
      exact absurd e (notow hi)
    · by_cases hj : j ∈ own
      · rw [if_pos hj] at e'
        exact absurd e' (notow hj)
      · rw [if_neg hi] at e
        rw [if_neg hj] at e'
        exact k'.inj i j o o' p e e' (by rw [wipe_get, if_neg (fun z => hi z.1)]; exact g) (by rw [wipe_get, if_neg (fun z => hj z.1)]; exact g')
end
end Hg
set_option Elab.async false
set_option linter.all false
set_option maxRecDepth 100000
set_option maxHeartbeats 400000
/-! List comprehensions. -/
namespace Hg
open PySem PySem.Spec PyProof.Rows L2 RZ RT
abbrev WF : WX := fun _ _ _ _ => False
section
variable {X : Cx} {EC : Nat → Addr} {W : WX}
theorem ownP_snd (N : List Str) (own : List Nat) : (ownP N own).map (·.2) = own := by
  unfold ownP
  rw [List.map_map]
  exact List.map_id own
/-- a comprehension's turn -/
def lcTurn (tg : Tg) (mt : M Bool) (me : M D) (d : D) : M (Option D) := (putT tg d).bind fun _ => mt.bind fun k => if k then me.bind fun x => M.pure (some x) else M.pure none
theorem lcGo_cons {own : List Nat} {turn : D → M (Option D)} {d : D} {ds : List D} {s s' : S} {xs : List D} (h : lcGo own turn (d :: ds) s = .ok xs s') :
    ∃ o s1 r, turn d s = .ok o s1 ∧ lcGo own turn ds (wipeS s1 own) = .ok r s' ∧ xs = optCons o r := by
  obtain ⟨o, s1, e1, h1⟩ := M.bind_ok h
  obtain ⟨_, s2, e2, h2⟩ := M.bind_ok h1
  obtain ⟨r, s3, e3, h3⟩ := M.bind_ok h2
  clear h h1 h2
  cases (show R.ok () (wipeS s1 own) = .ok _ s2 from e2)
  have h3 : R.ok (optCons o r) s3 = .ok xs s' := h3
  cases h3
  exact ⟨o, s1, r, e1, e3, rfl⟩
/-- what stands between two turns -/
structure LcAt (K : PySem.W.Frag) (F : NS) (s1 : S) (σ : L2.St) (H1 : Hp) (own : List Nat) (turn : D → M (Option D)) (ds xs : List D) (s' : S) (Dl : Addr) (i : Nat) (H : Hp) : Prop where
  at_ : ∃ si vs as rest, StOk K (Ad F Dl) si (L2.wipe σ own) H ∧ Fr F (Nn F s1 σ) H1 (Nn (Ad F Dl) si (L2.wipe σ own)) H ∧ H Dl = some (.lst vs) ∧ RpA K (Hid (Nn (Ad F Dl) si (L2.wipe σ own)) H) vs as ∧ vs.length ≤ i ∧
    lcGo own turn (ds.drop i) si = .ok rest s' ∧ as ++ rest = xs
theorem get_drop {α : Type} {l : List α} {i : Nat} {d : α} (h : l[i]? = some d) : l.drop i = d :: l.drop (i + 1) := by
  obtain ⟨hi, e⟩ := List.getElem?_eq_some_iff.mp h
  rw [List.drop_eq_getElem_cons hi, e]
/-- an iterator over the data, while what is kept for itself stays -/
def JOkF (K : PySem.W.Frag) (F N : NS) (H : Hp) (ds : List D) (J : It) : Prop := ∀ (N1 : NS) (H1 : Hp), Dm N1 H1 → Le (Hid N H) (Hid N1 H1) → (∀ b, F b → H1 b = H b) → ∀ i : Nat,
  (∀ d, ds[i]? = some d → J.go i H1 ∧ ∀ x H2, J.yld i H1 x H2 → (H2 = H1 ∨ ∃ p o, H1 p = none ∧ H2 = upd H1 p o) ∧ Rp K (Hid N1 H2) x d) ∧ (ds[i]? = none → J.stop i H1)
theorem T_lc1 {own : List Nat} {N : List Str} {tg : Tg} {mt : M Bool} {me : M D} (hsub : ∀ j, j ∈ tgIx tg → j ∈ own) {σ : L2.St} {H : Hp} {Q : VK} {F : NS} {s s1 : S} {ds : List D} {J : It} {H1 : Hp}
    (hd : Wp X.K EC W F s σ H (if own.all (fun i => notOw (s1.getD i .un)) && decide (ds.length < sizeLine) then (match lcGo own (lcTurn tg mt me) ds (wipeS s1 own) with
    | .bad => R.bad
    | .err _ _ => .bad
    | .ok xs s' => .ok (.ow (.lst xs)) (backS s1 s' own)) else .bad) fun r s' => ∀ v H', AftS X.K F s σ H r s' v H' → Q v H') (k1 : StOk X.K F s1 σ H1) (f1 : Fr F (Nn F s σ) H (Nn F s1 σ) H1) (hJ : JOkF X.K F (Nn F s1 σ) H1 ds J) :
    tLc (fun _ _ RR => RR J H1) (tPut X.K tg) (tBo X.K EC WF mt) (tD X.K EC WF me) ((ownP N own).map (·.2)) σ H Q := by
  rw [ownP_snd]
  intro Dl hDl
  by_cases cond : (own.all (fun i => notOw (s1.getD i .un)) && decide (ds.length < sizeLine)) = true
  case neg => rw [if_neg cond] at hd; exact hd.elim
  rw [if_pos cond] at hd
  obtain ⟨no, hz⟩ := Bool.and_eq_true_iff.mp cond
  have hz := of_decide_eq_true hz
  cases q : lcGo own (lcTurn tg mt me) ds (wipeS s1 own) with
  | bad => rw [q] at hd; exact hd.elim
  | err u z => rw [q] at hd; exact hd.elim
  | ok xs s' =>
    rw [q] at hd
    have hd : ∀ v H', AftS X.K F s σ H (.ow (.lst xs)) (backS s1 s' own) v H' → Q v H' := hd
    -- the start
    obtain ⟨kw, fw⟩ := k1.wipe (own := own) (σ' := L2.wipe σ own) (wipe_length σ own) (fun j hj => by rw [wipe_get, if_neg (fun z => hj z.1)])
    obtain ⟨k0, f0⟩ := kw.newOw (o := .lst []) .lst hDl
    have f00 : Fr F (Nn F s1 σ) H1 (Nn (Ad F Dl) (wipeS s1 own) (L2.wipe σ own)) (upd H1 Dl (.lst [])) := fw.trans f0
    refine ⟨fun i m H => m = ds.length - i ∧ i ≤ ds.length ∧ LcAt X.K F s1 σ H1 own (lcTurn tg mt me) ds xs s' Dl i H, ⟨ds.length, by simp, Nat.zero_le _, ⟨_, [], [], xs, k0, f00, upd_same, .nil, Nat.le_refl _, by rw [List.drop_zero]; exact q, rfl⟩⟩, ?_⟩
    rintro i m H2 ⟨rfl, hle, ⟨si, vs, as, rest, ki, fi, hD, ra, hvs, go, eq⟩⟩
    obtain ⟨j1, j2⟩ := hJ _ H2 (fun _ => ki.nn) fi.le fi.keep i
    cases hget : ds[i]? with
    | none =>
      have hi' : ds.length ≤ i := List.getElem?_eq_none_iff.mp hget
      refine .inl ⟨j2 hget, hd _ _ ?_⟩
      rw [List.drop_eq_nil_of_le hi'] at go
      cases (show R.ok [] si = .ok rest s' from go)
      rw [List.append_nil] at eq
      subst eq
      obtain ⟨kb, nb⟩ := k1.back (own := own) ki fi no
      refine ⟨Dl, rfl, kb, ?_, fun z => ?_, ?_⟩
      · rw [nb]
        exact f1.trans fi
      · obtain ⟨u, e, _⟩ := k1.dom Dl z
        rw [hDl] at e
        cases e
      · rw [nb]
        exact ⟨vs, hD, ra⟩
    | some d =>
      obtain ⟨jg, jy⟩ := j1 d hget
      have hlt : i < ds.length := (List.getElem?_eq_some_iff.mp hget).1
      rw [get_drop hget] at go
      obtain ⟨o, sb, r, e1, e2, e3⟩ := lcGo_cons go
      obtain ⟨_, sa, p1, e1⟩ := M.bind_ok (show ((putT tg d).bind fun _ => mt.bind fun k => if k then me.bind fun x => M.pure (some x) else M.pure none) si = .ok o sb from e1)
      obtain ⟨kk, sc, p2, e1⟩ := M.bind_ok e1
      refine .inr ⟨jg, LcAt X.K F s1 σ H1 own (lcTurn tg mt me) ds xs s' Dl (i + 1), fun H' z => ⟨ds.length - (i + 1), by omega, rfl, hlt, z⟩, fun x H3 hy => ?_⟩
      obtain ⟨hx, rx⟩ := jy x H3 hy
      -- the state behind the step
      have kf : StOk X.K (Ad F Dl) si (L2.wipe σ own) H3 ∧ Fr (Ad F Dl) (Nn (Ad F Dl) si (L2.wipe σ own)) H2 (Nn (Ad F Dl) si (L2.wipe σ own)) H3 := by
        rcases hx with rfl | ⟨p, u, hp, rfl⟩
        · exact ⟨ki, Fr.refl⟩
        · exact ⟨ki.new hp, ki.frNew hp⟩
      obtain ⟨k3, f3⟩ := kf
      refine ⟨Ad F Dl, si, d, k3, rx, sa, p1, fun σ4 a4 => ⟨?_, ?_⟩⟩
      · apply List.ext_getElem?
        intro j
        rw [wipe_get, wipe_get, a4.len, wipe_length]
        by_cases hj : j ∈ own ∧ j < σ.length
        · rw [if_pos hj, if_pos hj]
        · rw [if_neg hj, if_neg hj]
          by_cases ho : j ∈ own
          · have hl : σ.length ≤ j := by
              rcases Nat.lt_or_ge j σ.length with z | z
              · exact absurd ⟨ho, z⟩ hj
              · exact z
            rw [List.getElem?_eq_none hl, List.getElem?_eq_none (by rw [a4.len, wipe_length]; exact hl)]
          · rw [a4.out j (fun z => ho (hsub j z)), wipe_get, if_neg hj]
      · refine ⟨Ad F Dl, sa, a4.ok, ?_⟩
        rw [p2]
        intro H5 a5
        have f5 : Fr (Ad F Dl) (Nn (Ad F Dl) si (L2.wipe σ own)) H2 (Nn (Ad F Dl) sc σ4) H5 := (f3.trans a4.fr).trans a5.fr
        have out4 : ∀ j, j ∉ own → (L2.wipe σ own)[j]? = σ4[j]? := fun j hj => (a4.out j (fun z => hj (hsub j z))).symm
        -- the turn's end
        have fin : ∀ {s6 : S} {H6 : Hp} {vs6 : List V} {as6 : List D}, StOk X.K (Ad F Dl) s6 σ4 H6 → Fr (Ad F Dl) (Nn (Ad F Dl) si (L2.wipe σ own)) H2 (Nn (Ad F Dl) s6 σ4) H6 → ∀ (vs7 : List V) (as7 : List D),
            (∀ H7, (∀ b, b ≠ Dl → H7 b = H6 b) → H7 Dl = some (.lst vs7) → RpA X.K (Hid (Nn (Ad F Dl) s6 σ4) H7) vs7 as7) → vs7.length ≤ i + 1 → lcGo own (lcTurn tg mt me) (ds.drop (i + 1)) (wipeS s6 own) = .ok r s' → as7 ++ r = xs →
            LcAt X.K F s1 σ H1 own (lcTurn tg mt me) ds xs s' Dl (i + 1) (upd H6 Dl (.lst vs7)) := fun {s6 H6 vs6 as6} k6 f6 vs7 as7 hr hl7 hgo he7 => by
          have nD : Nn (Ad F Dl) s6 σ4 Dl := .inl (.inr rfl)
          have l7 : Le (Hid (Nn (Ad F Dl) s6 σ4) H6) (Hid (Nn (Ad F Dl) s6 σ4) (upd H6 Dl (.lst vs7))) := fun b u _ z => by
            obtain ⟨a, z⟩ := hid_iff.mp z
            have nb : b ≠ Dl := fun y => a (y ▸ nD)
            exact hid_iff.mpr ⟨a, by rw [upd_ne nb]; exact z⟩
          have k7 : StOk X.K (Ad F Dl) s6 σ4 (upd H6 Dl (.lst vs7)) := by
            refine ⟨k6.len, fun j d' e => ?_, fun j o' e => ?_, k6.inj, k6.ap, fun b z => ?_, ?_⟩
            · obtain ⟨v, q1, q2⟩ := k6.sh j d' e
              exact ⟨v, q1, Rp.mono l7 _ _ q2⟩
            · obtain ⟨p, q1, q2⟩ := k6.ow j o' e
              exact ⟨p, q1, q2.mono (upd_ne fun y => k6.ap p ⟨j, o', e, q1⟩ (.inr y)) l7⟩
            · by_cases hb : b = Dl
              · rw [hb]
                exact ⟨_, upd_same, .lst⟩
              · rw [upd_ne hb]
                exact k6.dom b z
            · obtain ⟨u, e, n⟩ := k6.dom Dl (.inr rfl)
              exact k6.tb.put e n
          obtain ⟨k8, f8⟩ := k7.wipe (own := own) (σ' := L2.wipe σ own) (by rw [a4.len]) out4
          refine ⟨_, vs7, as7, r, k8, ?_, upd_same, RpA.mono f8.le _ _ (hr _ (fun b nb => upd_ne nb) upd_same), hl7, hgo, he7⟩
          refine ⟨fun b z => ?_, fun b u n tb z => ?_⟩
          · have nb : b ≠ Dl := fun y => by
              obtain ⟨u, e, _⟩ := k1.dom b z
              rw [y, hDl] at e
              cases e
            rw [upd_ne nb]
            exact (f6.keep b (.inl z)).trans (fi.keep b z)
          · obtain ⟨z1, n1⟩ := fi.imm b u n tb z
            obtain ⟨z2, n2⟩ := f6.imm b u n1 tb z1
            have nb : b ≠ Dl := fun y => n2 (y ▸ nD)
            exact f8.imm b u n2 tb (by rw [upd_ne nb]; exact z2)
        have hD5 : H5 Dl = some (.lst vs) := (f5.keep Dl (.inr rfl)).trans hD
        cases kk with
        | true =>
          obtain ⟨y, sy, p3, e1⟩ := M.bind_ok (show (me.bind fun x => M.pure (some x)) sc = .ok o sb from e1)
          cases (show R.ok (some y) sy = .ok o sb from e1)
          refine ⟨Ad F Dl, sc, a5.ok, ?_⟩
          rw [p3]
          intro yv H6 a6
          have f6 := f5.trans a6.fr
          refine ⟨vs, (f6.keep Dl (.inr rfl)).trans hD, Nat.lt_of_le_of_lt hvs (Nat.lt_trans hlt hz), ?_⟩
          refine fin (vs6 := vs) (as6 := as) a6.ok f6 (vs ++ [yv]) (as ++ [y]) (fun H7 ne _ => ?_) (by rw [List.length_append, List.length_singleton]; omega) e2 (by rw [List.append_assoc, ← eq, e3] <;> rfl)
          have l : Le (Hid (Nn (Ad F Dl) sb σ4) H6) (Hid (Nn (Ad F Dl) sb σ4) H7) := fun b u _ z => by
            obtain ⟨a, z⟩ := hid_iff.mp z
            exact hid_iff.mpr ⟨a, by rw [ne b fun y => a (y ▸ .inl (.inr rfl))]; exact z⟩
          exact (RpA.mono (f6.le.trans l) _ _ ra).append (.cons (Rp.mono l _ _ a6.rp) .nil)
        | false =>
          cases (show R.ok none sc = .ok o sb from e1)
          have z := fin (vs6 := vs) (as6 := as) a5.ok f5 vs as (fun H7 ne _ => ?_) (Nat.le_succ_of_le hvs) e2 (by rw [← eq, e3] <;> rfl)
          · have e : upd H5 Dl (.lst vs) = H5 := by
              funext b
              by_cases hb : b = Dl
              · rw [hb, upd_same, hD5]
              · rw [upd_ne hb]
            rw [e] at z
            exact z
          · have l : Le (Hid (Nn (Ad F Dl) sb σ4) H5) (Hid (Nn (Ad F Dl) sb σ4) H7) := fun b u _ z => by
              obtain ⟨a, z⟩ := hid_iff.mp z
              exact hid_iff.mpr ⟨a, by rw [ne b fun y => a (y ▸ .inl (.inr rfl))]; exact z⟩
            exact RpA.mono (f5.le.trans l) _ _ ra
theorem T_lc {own : List Nat} {N : List Str} {tg : Tg} {mt : M Bool} {me : M D} {src : M (List D)} (hsub : ∀ j, j ∈ tgIx tg → j ∈ own) {σ : L2.St} {H : Hp} {Q : VK} (w : tE X.K EC W (lcM own (lcTurn tg mt me) src) σ H Q) :
    tLc (tSr X.K EC W src) (tPut X.K tg) (tBo X.K EC WF mt) (tD X.K EC WF me) ((ownP N own).map (·.2)) σ H Q := by
  obtain ⟨F, s, k, w⟩ := w
  exact ⟨F, s, k, w.bind.mono fun ds s1 hd J H1 k1 f1 hJ => T_lc1 hsub hd k1 f1 fun N1 H2 a b _ => hJ N1 H2 a b⟩
theorem E_lc {elt t it : Expr} {ifs : List Expr} {scope : Scope} {own : List Nat} {pos : Pos} {tg : Tg} {mt : M Bool} {me : M D} {src : M (List D)} (hc : X.calm = true) (hN : X.N.Nodup) (hi : PI X t it (tSr X.K EC W src)) (ok : BlkOk X.N X.env.scope scope (ownP X.N own))
    (hg : ∀ (s : Shared) (H : Hp) (C : Addr) (cl : List (Str × Addr)) (fp : List Addr), PG (X.blk s H scope (compEnvC scope cl C X.env) fp) t (tPut X.K tg))
    (ht : ∀ (s : Shared) (H : Hp) (C : Addr) (cl : List (Str × Addr)) (fp : List Addr), PTs (X.blk s H scope (compEnvC scope cl C X.env) fp) ifs (tBo X.K EC WF mt))
    (he : ∀ (s : Shared) (H : Hp) (C : Addr) (cl : List (Str × Addr)) (fp : List Addr), PE (X.blk s H scope (compEnvC scope cl C X.env) fp) elt (tD X.K EC WF me))
    (hs : ∀ x, foldedSetIterable it X.env x = pure x) (hsub : ∀ j, j ∈ tgIx tg → j ∈ own) :
    PE X (.ListComp elt [⟨t, it, ifs, 0⟩] scope pos) (tE X.K EC W (lcM own (lcTurn tg mt me) src)) := peW (pe_lc hc hN hi ok hg ht he hs) fun σ H Q w => T_lc hsub w

/-! ### a walk over a list that the def holds -/
theorem own_lend {K : PySem.W.Frag} {F : NS} {s : S} {σ : L2.St} {H : Hp} (k : StOk K F s σ H) {i : Nat} {ds : List D} {p : Addr} (e : s[i]? = some (.ow (.lst ds))) (ep : σ[i]? = some (some (.ref p))) :
    StOk K (Ad F p) (s.set i .un) σ H ∧ Nn (Ad F p) (s.set i .un) σ = Nn F s σ := by
  have ne : ∀ (j : Nat) (x : Sl), x ≠ .un → (s.set i .un)[j]? = some x → j ≠ i ∧ s[j]? = some x := fun j x hx z => by
    by_cases c : i = j
    · subst c
      rw [List.getElem?_set_self (get_lt e)] at z
      cases z
      exact absurd rfl hx
    · rw [List.getElem?_set_ne c] at z
      exact ⟨fun y => c y.symm, z⟩
  have neo : ∀ (j : Nat) (o : Ob), (s.set i .un)[j]? = some (.ow o) → j ≠ i ∧ s[j]? = some (.ow o) := fun j o z => ne j (.ow o) (fun y => nomatch y) z
  have nes : ∀ (j : Nat) (d : D), (s.set i .un)[j]? = some (.sh d) → j ≠ i ∧ s[j]? = some (.sh d) := fun j d z => ne j (.sh d) (fun y => nomatch y) z
  have en : Nn (Ad F p) (s.set i .un) σ = Nn F s σ := by
    funext b
    refine propext ⟨fun z => ?_, fun z => ?_⟩
    · rcases z with (z | z) | ⟨j, o, z1, z2⟩
      · exact .inl z
      · exact .inr ⟨i, _, e, by rw [z]; exact ep⟩
      · exact .inr ⟨j, o, (neo j o z1).2, z2⟩
    · rcases z with z | ⟨j, o, z1, z2⟩
      · exact .inl (.inl z)
      · by_cases c : j = i
        · subst c
          rw [ep] at z2
          cases z2
          exact .inl (.inr rfl)
        · exact .inr ⟨j, o, by rw [List.getElem?_set_ne fun y => c y.symm]; exact z1, z2⟩
  refine ⟨⟨by rw [List.length_set]; exact k.len, fun j d z => ?_, fun j o z => ?_, fun j j' o o' q z z' y y' => ?_, fun b z y => ?_, fun b z => ?_, k.tb⟩, en⟩
  · rw [en]
    exact k.sh j d (nes j d z).2
  · rw [en]
    exact k.ow j o (neo j o z).2
  · exact k.inj j j' o o' q (neo j o z).2 (neo j' o' z').2 y y'
  · obtain ⟨j, o, z1, z2⟩ := z
    obtain ⟨c, z1⟩ := neo j o z1
    rcases y with y | y
    · exact k.ap b ⟨j, o, z1, z2⟩ y
    · subst y
      exact c (k.inj j i o _ b z1 e z2 ep)
  · rcases z with z | z
    · exact k.dom b z
    · rw [z]
      exact k.own' ⟨i, _, e, ep⟩
theorem own_back {K : PySem.W.Frag} {G : NS} {s : S} {σ : L2.St} {H : Hp} {i : Nat} {ds : List D} {p : Addr} {vs : List V} (k : StOk K (Ad G p) s σ H) (hp : ¬ G p) (e : s[i]? = some .un) (ep : σ[i]? = some (some (.ref p))) (hH : H p = some (.lst vs)) (r : RpA K (Hid (Nn (Ad G p) s σ) H) vs ds) :
    StOk K G (s.set i (.ow (.lst ds))) σ H ∧ Nn G (s.set i (.ow (.lst ds))) σ = Nn (Ad G p) s σ := by
  have ne : ∀ (j : Nat) (x : Sl), j ≠ i → (s.set i (.ow (.lst ds)))[j]? = some x → s[j]? = some x := fun j x hx z => by
    rwa [List.getElem?_set_ne fun y => hx y.symm] at z
  have at_ : (s.set i (.ow (.lst ds)))[i]? = some (.ow (.lst ds)) := List.getElem?_set_self (get_lt e)
  have en : Nn G (s.set i (.ow (.lst ds))) σ = Nn (Ad G p) s σ := by
    funext b
    refine propext ⟨fun z => ?_, fun z => ?_⟩
    · rcases z with z | ⟨j, o, z1, z2⟩
      · exact .inl (.inl z)
      · by_cases c : j = i
        · subst c
          rw [ep] at z2
          cases z2
          exact .inl (.inr rfl)
        · exact .inr ⟨j, o, ne j _ c z1, z2⟩
    · rcases z with (z | z) | ⟨j, o, z1, z2⟩
      · exact .inl z
      · exact .inr ⟨i, _, at_, by rw [z]; exact ep⟩
      · by_cases c : j = i
        · subst c
          rw [e] at z1
          cases z1
        · exact .inr ⟨j, o, by rw [List.getElem?_set_ne fun y => c y.symm]; exact z1, z2⟩
  have own2 : ∀ (j : Nat) (o : Ob) (b : Addr), s[j]? = some (.ow o) → σ[j]? = some (some (.ref b)) → b ≠ p := fun j o b z1 z2 y => k.ap b ⟨j, o, z1, z2⟩ (.inr y)
  refine ⟨⟨by rw [List.length_set]; exact k.len, fun j d z => ?_, fun j o z => ?_, fun j j' o o' q z z' y y' => ?_, fun b z y => ?_, fun b z => k.dom b (.inl z), k.tb⟩, en⟩
  · rw [en]
    by_cases c : j = i
    · subst c
      rw [at_] at z
      cases z
    · exact k.sh j d (ne j _ c z)
  · rw [en]
    by_cases c : j = i
    · subst c
      rw [at_] at z
      cases z
      exact ⟨p, ep, vs, hH, r⟩
    · exact k.ow j o (ne j _ c z)
  · by_cases c : j = i
    · by_cases c' : j' = i
      · rw [c, c']
      · subst c
        rw [ep] at y
        cases y
        exact absurd rfl (own2 j' o' _ (ne j' _ c' z') y')
    · by_cases c' : j' = i
      · subst c'
        rw [ep] at y'
        cases y'
        exact absurd rfl (own2 j o _ (ne j _ c z) y)
      · exact k.inj j j' o o' q (ne j _ c z) (ne j' _ c' z') y y'
  · obtain ⟨j, o, z1, z2⟩ := z
    by_cases c : j = i
    · subst c
      rw [ep] at z2
      cases z2
      exact hp y
    · exact k.ap b ⟨j, o, ne j _ c z1, z2⟩ (.inl y)
theorem ad_comm (F : NS) (p q : Addr) : Ad (Ad F p) q = Ad (Ad F q) p := by
  funext b
  exact propext ⟨fun z => z.elim (fun z => z.elim (fun z => .inl (.inl z)) .inr) fun z => .inl (.inr z), fun z => z.elim (fun z => z.elim (fun z => .inl (.inl z)) .inr) fun z => .inl (.inr z)⟩
theorem E_lcl {elt t : Expr} {n : Str} {p1 : Pos} {ifs : List Expr} {scope : Scope} {own : List Nat} {pos : Pos} {tg : Tg} {mt : M Bool} {me : M D} {i : Nat} (hc : X.calm = true) (hN : X.N.Nodup) (hv : PE X (.Name n p1) (tVar i)) (ok : BlkOk X.N X.env.scope scope (ownP X.N own))
    (hg : ∀ (s : Shared) (H : Hp) (C : Addr) (cl : List (Str × Addr)) (fp : List Addr), PG (X.blk s H scope (compEnvC scope cl C X.env) fp) t (tPut X.K tg))
    (ht : ∀ (s : Shared) (H : Hp) (C : Addr) (cl : List (Str × Addr)) (fp : List Addr), PTs (X.blk s H scope (compEnvC scope cl C X.env) fp) ifs (tBo X.K EC WF mt))
    (he : ∀ (s : Shared) (H : Hp) (C : Addr) (cl : List (Str × Addr)) (fp : List Addr), PE (X.blk s H scope (compEnvC scope cl C X.env) fp) elt (tD X.K EC WF me))
    (hs : ∀ x, foldedSetIterable (.Name n p1) X.env x = pure x) (hsub : ∀ j, j ∈ tgIx tg → j ∈ own) :
    PE X (.ListComp elt [⟨t, .Name n p1, ifs, 0⟩] scope pos) (tE X.K EC W (lcL own (lcTurn tg mt me) i)) := peW (pe_lc hc hN (pi_list hv) ok hg ht he hs) fun σ H Q ⟨F, s, k, w⟩ => by
  unfold lcL at w
  split at w
  · rename_i ds e
    obtain ⟨p, ep, vs, hp, rv⟩ := k.ow i _ e
    obtain ⟨k2, en⟩ := own_lend k e ep
    refine ⟨.ref p, ep, p, rfl, ⟨vs, SqL.of hp⟩, ?_⟩
    have hFp : ¬ F p := k.ap p ⟨i, _, e, ep⟩
    have f2 : Fr F (Nn F s σ) H (Nn (Ad F p) (s.set i .un) σ) H := by
      rw [en]
      exact Fr.refl
    refine T_lc1 (W := W) (F := Ad F p) (s := s.set i .un) (s1 := s.set i .un) (ds := ds) hsub (Q := Q) ?_ k2 Fr.refl fun N1 H1 _ l kp j => ?_
    · cases q : lcM own (lcTurn tg mt me) (M.pure ds) (s.set i .un) with
      | bad => rw [q] at w; exact w.elim
      | err u z => rw [q] at w; exact w.elim
      | ok r s' =>
        rw [q] at w
        have q2 : (if own.all (fun i_1 => notOw ((s.set i .un).getD i_1 .un)) && decide (ds.length < sizeLine) then (match lcGo own (lcTurn tg mt me) ds (wipeS (s.set i .un) own) with
          | .bad => R.bad
          | .err _ _ => .bad
          | .ok xs s' => .ok (.ow (.lst xs)) (backS (s.set i .un) s' own)) else .bad) = R.ok r s' := q
        rw [q2]
        have w : Wp X.K EC W F s σ H (match s'[i]? with
          | some .un => R.ok r (s'.set i (.ow (.lst ds)))
          | _ => .bad) _ := w
        cases z : s'[i]? with
        | none => rw [z] at w; exact w.elim
        | some x =>
          rw [z] at w
          cases x with
          | sh d => exact w.elim
          | ow o => exact w.elim
          | un =>
            intro v H' a
            have w : ∀ v H', AftS X.K F s σ H r (s'.set i (.ow (.lst ds))) v H' → Q v H' := w
            refine w v H' ?_
            cases r with
            | un => exact a
            | sh d =>
              have a : AftD X.K (Ad F p) (s.set i .un) σ H d s' v H' := a
              have hp2 : H' p = some (.lst vs) := (a.fr.keep p (.inr rfl)).trans hp
              have rv2 : RpA X.K (Hid (Nn (Ad F p) s' σ) H') vs ds := RpA.mono a.fr.le _ _ (by rw [en]; exact rv)
              obtain ⟨k3, en3⟩ := own_back a.ok hFp z ep hp2 rv2
              refine ⟨k3, ?_, ?_⟩
              · rw [en3, ← en]
                exact ⟨fun b y => a.fr.keep b (.inl y), a.fr.imm⟩
              · rw [en3]
                exact a.rp
            | ow o =>
              obtain ⟨u, rfl, a2⟩ := (show ∃ u, v = .ref u ∧ AftW X.K (Ad F p) (s.set i .un) σ H o s' u H' from a)
              have hp2 : H' p = some (.lst vs) := (a2.fr.keep p (.inr rfl)).trans hp
              have rv2 : RpA X.K (Hid (Nn (Ad (Ad F p) u) s' σ) H') vs ds := RpA.mono a2.fr.le _ _ (by rw [en]; exact rv)
              have ok3 := a2.ok
              rw [ad_comm] at ok3 rv2
              obtain ⟨k3, en3⟩ := own_back ok3 (fun y => y.elim hFp fun y => a2.nf (.inr y.symm)) z ep hp2 rv2
              rw [ad_comm] at en3
              refine ⟨u, rfl, k3, ?_, fun y => a2.nf (.inl y), ?_⟩
              · rw [en3, ← en]
                exact ⟨fun b y => a2.fr.keep b (.inl y), a2.fr.imm⟩
              · rw [en3]
                exact a2.at_
    · have h1 : SqL X.K H1 p vs := SqL.of ((kp p (.inr rfl)).trans hp)
      have rv : RpA X.K (Hid (Nn (Ad F p) (s.set i .un) σ) H) vs ds := by rw [en]; exact rv
      refine ⟨fun d e => ?_, fun e => ⟨vs, h1, rv.none_of e⟩⟩
      obtain ⟨v, e1, r1⟩ := rv.get e
      refine ⟨⟨vs, v, h1, e1⟩, fun x H2 y => ?_⟩
      obtain ⟨rfl, y⟩ := y
      have := (y vs h1).symm.trans e1
      cases this
      exact ⟨.inl rfl, Rp.mono l _ _ r1⟩
  · exact w.elim
end
end Hg
set_option Elab.async false
set_option linter.all false
set_option maxRecDepth 100000
set_option maxHeartbeats 400000
/-! What changes an owned list. -/
namespace Hg
open PySem PySem.Spec PyProof.Rows L2 RZ RT
section
variable {K : PySem.W.Frag} {F : NS} {s s1 s' : S} {σ : L2.St} {H H1 H' : Hp}
theorem own_set {i : Nat} {o u : Ob} (e : s[i]? = some (.ow o)) (b : Addr) : Own (s.set i (.ow u)) σ b ↔ Own s σ b := by
  have hi := get_lt e
  constructor
  · rintro ⟨j, w, e1, e2⟩
    by_cases hj : j = i
    · subst hj
      exact ⟨j, o, e, e2⟩
    · rw [List.getElem?_set_ne (Ne.symm hj)] at e1
      exact ⟨j, w, e1, e2⟩
  · rintro ⟨j, w, e1, e2⟩
    by_cases hj : j = i
    · subst hj
      exact ⟨j, u, List.getElem?_set_self hi, e2⟩
    · exact ⟨j, w, by rw [List.getElem?_set_ne (Ne.symm hj)]; exact e1, e2⟩
theorem nn_set {i : Nat} {o u : Ob} (e : s[i]? = some (.ow o)) : Nn F (s.set i (.ow u)) σ = Nn F s σ := by
  funext b
  exact propext (or_congr Iff.rfl (own_set e b))
/-- an owned slot's object rewritten -/
theorem StOk.reput (k : StOk K F s σ H) {i : Nat} {o u : Ob} {p : Addr} {h : HO} (e : s[i]? = some (.ow o)) (ep : σ[i]? = some (some (.ref p))) (hq : OwAt K (Nn F s σ) (upd H p h) p u) :
    StOk K F (s.set i (.ow u)) σ (upd H p h) ∧ Fr F (Nn F s σ) H (Nn F (s.set i (.ow u)) σ) (upd H p h) := by
  have hi := get_lt e
  have op : Own s σ p := ⟨i, o, e, ep⟩
  have nn : Nn F (s.set i (.ow u)) σ = Nn F s σ := nn_set e
  have f : Fr F (Nn F s σ) H (Nn F s σ) (upd H p h) := by
    refine ⟨fun b hb => upd_ne fun z => k.ap p op (z ▸ hb), fun b w n _ z => ⟨?_, n⟩⟩
    rw [upd_ne fun (y : b = p) => n (.inr (y ▸ op))]
    exact z
  refine ⟨⟨by rw [List.length_set]; exact k.len, fun j d z => ?_, fun j w z => ?_, fun a b w w' q z z' y y' => ?_, fun b z => k.ap b ((own_set e b).mp z), fun b z => ?_, ?_⟩, by rw [nn]; exact f⟩
  · rw [nn]
    by_cases hj : j = i
    · subst hj
      rw [List.getElem?_set_self hi] at z
      cases z
    · rw [List.getElem?_set_ne (Ne.symm hj)] at z
      obtain ⟨v, e1, r⟩ := k.sh j d z
      exact ⟨v, e1, Rp.mono f.le _ _ r⟩
  · rw [nn]
    by_cases hj : j = i
    · subst hj
      rw [List.getElem?_set_self hi] at z
      cases z
      exact ⟨p, ep, hq⟩
    · rw [List.getElem?_set_ne (Ne.symm hj)] at z
      obtain ⟨q, e1, r⟩ := k.ow j w z
      exact ⟨q, e1, r.mono (upd_ne fun y => hj (k.inj j i w o p z e (y ▸ e1) ep)) f.le⟩
  · have back : ∀ {j : Nat} {w : Ob}, (s.set i (.ow u))[j]? = some (.ow w) → ∃ w', s[j]? = some (.ow w') := fun {j w} z => by
      by_cases hj : j = i
      · subst hj
        exact ⟨o, e⟩
      · rw [List.getElem?_set_ne (Ne.symm hj)] at z
        exact ⟨w, z⟩
    obtain ⟨_, q1⟩ := back z
    obtain ⟨_, q2⟩ := back z'
    exact k.inj a b _ _ q q1 q2 y y'
  · by_cases hb : b = p
    · rw [hb]
      obtain ⟨w, e1, n⟩ := hq.there'
      exact ⟨w, e1, n⟩
    · rw [upd_ne hb]
      exact k.dom b z
  · obtain ⟨w, e1, n⟩ := k.own' op
    exact k.tb.put e1 n
theorem Wp.ownL {α : Type} {EC : Nat → Addr} {W : WX} {i : Nat} {f : List D → M α} {Φ : α → S → Prop} (w : Wp K EC W F s σ H (((ownL i).bind f) s1) Φ) : ∃ xs, s1[i]? = some (.ow (.lst xs)) ∧ Hg.ownL i s1 = .ok xs s1 ∧ Wp K EC W F s σ H (f xs s1) Φ := by
  have w := w.bind
  unfold Hg.ownL at w ⊢
  cases q : s1[i]? with
  | none => rw [q] at w; exact w.elim
  | some z =>
    rw [q] at w
    cases z with
    | un => exact w.elim
    | sh d => exact w.elim
    | ow o =>
      cases o with
      | dic kvs => exact w.elim
      | lst xs => exact ⟨xs, rfl, rfl, w⟩
/-- a list's new content -/
theorem StOk.lset (k : StOk K F s σ H) {i : Nat} {xs ys : List D} {p : Addr} {vs : List V} (e : s[i]? = some (.ow (.lst xs))) (ep : σ[i]? = some (some (.ref p))) (r : RpA K (Hid (Nn F s σ) H) vs ys) :
    StOk K F (s.set i (.ow (.lst ys))) σ (upd H p (.lst vs)) ∧ Fr F (Nn F s σ) H (Nn F (s.set i (.ow (.lst ys))) σ) (upd H p (.lst vs)) := by
  have op : Own s σ p := ⟨i, _, e, ep⟩
  refine k.reput e ep ⟨vs, upd_same, RpA.mono (fun b u _ z => ?_) _ _ r⟩
  obtain ⟨a, z⟩ := hid_iff.mp z
  exact hid_iff.mpr ⟨a, by rw [upd_ne fun (y : b = p) => a (.inr (y ▸ op))]; exact z⟩
end
section
variable {X : Cx} {EC : Nat → Addr} {W : WX} {C : Cal} {e a b c : Expr} {m ma mb : M Sl} {pos ap cp p1 : Pos} {n : Str} {i : Nat}
theorem few_one {env : Env} (h : noStar a = true) : ((backTo cp (starEach [a] env)).all (fun x => !x.1) && (backToKw cp (keywordEach [] env)).all (fun x => x.1.isSome)
      && decide (([a] : List Expr).length + ([] : List Keyword).length + (if ([] : List Keyword).isEmpty then 0 else 1) < 30)) = true := by
  rw [star_cons h]
  rfl
/-- a method of an owned list with one argument -/
theorem E_met {id : String} {mn : Str} {r : V → List V → Hp → VK → Prop} {g : D → List D → M Sl} (slot : Slot "list" mn id) (hty : typeOf (.builtin id) = pure (.type "method_descriptor")) (hm : MtR X id r) (hv : PE X (.Name n p1) (tVar i)) (ha : PE X a (tE X.K EC W ma)) (na : noStar a = true) (hl : (ap.endLine == cp.line) = true)
    (step : ∀ (F : NS) (s : S) (σ : L2.St) (H : Hp) (p : Addr) (v : V) (d : D) (xs : List D) (vs : List V) (Q : VK), StOk X.K F s σ H → s[i]? = some (.ow (.lst xs)) → σ[i]? = some (some (.ref p)) → H p = some (.lst vs) → RpA X.K (Hid (Nn F s σ) H) vs xs → Rp X.K (Hid (Nn F s σ) H) v d →
      (Wp X.K EC W F s σ H (g d xs s) fun z s' => ∀ v' H', AftS X.K F s σ H z s' v' H' → Q v' H') → r (.ref p) [v] H Q) :
    PE X (.Call (.Attribute (.Name n p1) mn ap) [a] [] cp) (tE X.K EC W ((ownL i).bind fun _ => (frz ma).bind fun d => (ownL i).bind fun xs => g d xs)) :=
  peW (pe_bm PySem.F.plainAttrs_list slot hty hm hv (pa_cons (pe_frz ha) pa_nil (star_cons na _)) (by rfl) (few_one na) hl (star_cons na _) (star_all [] cp X.env rfl)) fun σ H Q ⟨F, s, k, w⟩ => by
    obtain ⟨xs, e, _, w⟩ := Wp.ownL w
    obtain ⟨p, ep, vs, hp, rv⟩ := k.ow i _ e
    refine ⟨.ref p, ep, .inl ⟨rfl, vs, SqL.of hp⟩, F, s, k, w.bind.mono fun d s1 hd v H1 ad => ?_⟩
    obtain ⟨xs1, e1, _, hd⟩ := Wp.ownL hd
    obtain ⟨p1, ep1, vs1, hp1, rv1⟩ := ad.ok.ow i _ e1
    rw [ep] at ep1
    cases ep1
    exact step F s1 σ H1 p v d xs1 vs1 Q ad.ok e1 ep hp1 rv1 ad.rp ((hd.on ad.fr).mono fun z s' hz v' H' aft => hz v' H' (aft.back ad.fr))
theorem E_pop (hv : PE X (.Name n p1) (tVar i)) (ha : PE X a (tE X.K EC W ma)) (na : noStar a = true) (hl : (ap.endLine == cp.line) = true) :
    PE X (.Call (.Attribute (.Name n p1) "pop" ap) [a] [] cp) (tE X.K EC W ((ownL i).bind fun _ => (frz ma).bind fun d => (ownL i).bind fun xs => popM i d xs)) :=
  E_met (g := popM i) PySem.F.slot_list_pop PySem.F.type_list_pop mt_popAt hv ha na hl fun F s σ H p v d xs vs Q k e ep hp rv r w => by
    cases d with
    | int z =>
      have w : Wp X.K EC W F s σ H ((if -(2 ^ 63) ≤ z ∧ z < 2 ^ 63 then (lift (popD xs z)).bind fun p => (setL i p.2).bind fun _ => M.pure (Sl.sh p.1) else bad) s) (fun z' s' => ∀ v' H', AftS X.K F s σ H z' s' v' H' → Q v' H') := w
      by_cases c : -(2 ^ 63) ≤ z ∧ z < 2 ^ 63
      · rw [if_pos c] at w
        obtain ⟨q, e1, w⟩ := w.bind.lift
        cases r
        cases hk : seqIndex? z xs.length with
        | none => simp only [popD, hk] at e1; cases e1
        | some kk =>
          cases hy : xs[kk]? with
          | none => simp only [popD, hk, hy] at e1; cases e1
          | some y =>
            simp only [popD, hk, hy] at e1
            cases e1
            obtain ⟨u, hu, ru⟩ := rv.get hy
            rw [← rv.length] at hk
            obtain ⟨k1, f1⟩ := k.lset e ep (rv.erase kk)
            have w : ∀ v' H', AftS X.K F s σ H (.sh y) (s.set i (.ow (.lst (xs.eraseIdx kk)))) v' H' → Q v' H' := w
            exact ⟨p, vs, z, kk, u, rfl, rfl, hp, c.1, c.2, hk, hu, w _ _ ⟨k1, f1, Rp.mono f1.le _ _ ru⟩⟩
      · rw [if_neg c] at w
        exact w.elim
    | _ => exact w.elim
theorem non_use {F : NS} {s : S} {σ : L2.St} {H : Hp} {p : Addr} {xs ys : List D} {us : List V} {Q : VK} (k : StOk X.K F s σ H) (e : s[i]? = some (.ow (.lst xs))) (ep : σ[i]? = some (some (.ref p))) (r : RpA X.K (Hid (Nn F s σ) H) us ys)
    (w : Wp X.K EC W F s σ H (nonM i ys s) fun z s' => ∀ v' H', AftS X.K F s σ H z s' v' H' → Q v' H') : Q .non (upd H p (.lst us)) := by
  obtain ⟨k1, f1⟩ := k.lset e ep r
  have w : ∀ v' H', AftS X.K F s σ H (.sh .none) (s.set i (.ow (.lst ys))) v' H' → Q v' H' := w
  exact w _ _ ⟨k1, f1, .non⟩
theorem E_app (hv : PE X (.Name n p1) (tVar i)) (ha : PE X a (tE X.K EC W ma)) (na : noStar a = true) (hl : (ap.endLine == cp.line) = true) :
    PE X (.Call (.Attribute (.Name n p1) "append" ap) [a] [] cp) (tE X.K EC W ((ownL i).bind fun _ => (frz ma).bind fun d => (ownL i).bind fun xs => appM i d xs)) :=
  E_met (r := rAppend) (g := appM i) PySem.F.slot_list_append PySem.F.type_list_append mt_append hv ha na hl fun F s σ H p v d xs vs Q k e ep hp rv r w => by
    unfold appM at w
    by_cases c : xs.length < sizeLine
    · rw [if_pos c] at w
      exact ⟨p, vs, v, rfl, rfl, hp, by rw [rv.length]; exact c, non_use k e ep (rv.append (.cons r .nil)) w⟩
    · rw [if_neg c] at w
      exact w.elim
def rExtR (K : PySem.W.Frag) : V → List V → Hp → VK → Prop := fun x vs H Q => ∃ l b xs zs, x = .ref l ∧ vs = [.ref b] ∧ H l = some (.lst xs) ∧ RdK K H b zs ∧ xs.length + zs.length ≤ sizeLine ∧ Q .non (upd H l (.lst (xs ++ zs)))
theorem mt_extR : MtM X "list.extend" (rExtR X.K) := by
  intro pins s σ H x vs v us Q I rx rv h
  obtain ⟨l, b, xs, zs, rfl, rfl, hH, hB, hz, q⟩ := h
  cases rx
  obtain ⟨u, rfl, ru⟩ := rv.one
  cases ru
  obtain ⟨z, its, n, r, hl, e⟩ := I.lstM hH
  obtain ⟨_, its2, n2, r2, e2⟩ := hB.obj I.kIn I.hok
  have hl2 := r2.length
  have hsz : its.toArray.size + its2.toArray.size ≤ sizeLine := by rw [List.size_toArray, List.size_toArray]; omega
  have hlong : ¬ (!its.toArray.isEmpty && Builtin.List.listTooLong (its.toArray.size + its2.toArray.size)) = true := by
    rw [notLongL hsz, Bool.and_false]
    exact Bool.false_ne_true
  refine call_meets F.slot_list_extend ⟨_, e, rfl⟩ F.entry_list_extend (F.args_list_extend_2 _ _)
    (AutoSeq1.list_extend_list_list_0 l its.toArray n b its2.toArray n2 hlong (by rw [List.size_toArray]; omega) (by omega)) ⟨e, e2, ?_⟩
  refine ⟨.non, _, I.lset (its' := its ++ its2) hH e (by simp) (r.append r2) ?_, rfl, q⟩
  rw [List.length_append]
  omega
theorem E_ext (hv : PE X (.Name n p1) (tVar i)) (ha : PE X a (tE X.K EC W ma)) (na : noStar a = true) (hl : (ap.endLine == cp.line) = true) :
    PE X (.Call (.Attribute (.Name n p1) "extend" ap) [a] [] cp) (tE X.K EC W ((ownL i).bind fun _ => (frz ma).bind fun d => (ownL i).bind fun xs => extM i d xs)) :=
  E_met (r := rExtR X.K) (g := extM i) PySem.F.slot_list_extend PySem.F.type_list_extend mt_extR hv ha na hl fun F s σ H p v d xs vs Q k e ep hp rv r w => by
    cases d with
    | list ys =>
      have w : Wp X.K EC W F s σ H ((if xs.length + ys.length ≤ sizeLine then nonM i (xs ++ ys) else bad) s) (fun z' s' => ∀ v' H', AftS X.K F s σ H z' s' v' H' → Q v' H') := w
      by_cases c : xs.length + ys.length ≤ sizeLine
      · rw [if_pos c] at w
        cases r with
        | lst r1 r2 => exact ⟨p, _, vs, _, rfl, rfl, hp, hid_le.rdK r1, by rw [rv.length, r2.length]; exact c, non_use k e ep (rv.append r2) w⟩
      · rw [if_neg c] at w
        exact w.elim
    | _ => exact w.elim
def rIns : V → List V → Hp → VK → Prop := fun x vs H Q => ∃ l xs k y, x = .ref l ∧ vs = [.int k, y] ∧ H l = some (.lst xs) ∧ 0 ≤ k ∧ k ≤ xs.length ∧ xs.length < sizeLine ∧ Q .non (upd H l (.lst (xs.take k.toNat ++ y :: xs.drop k.toNat)))
theorem mt_ins : MtM X "list.insert" rIns := by
  intro pins s σ H x vs v us Q I rx rv h
  obtain ⟨l, xs, k, y, rfl, rfl, hH, h0, h1, hz, q⟩ := h
  cases rx
  obtain ⟨u, w, rfl, ru, rw'⟩ := rv.two
  obtain ⟨t, rfl⟩ := ru
  obtain ⟨z, its, n, r, hl, e⟩ := I.lstM hH
  have hn := line63
  have hf : ¬ (!Builtin.List.listFitsIndex k) = true := by rw [fitsIndex_both (by omega) (by omega)]; decide
  refine call_meets F.slot_list_insert ⟨_, e, rfl⟩ F.entry_list_insert (F.args_list_insert_3 _ _ _) (AutoSeq1.list_insert_list_int_val_1 l its.toArray n k t w hf (by rw [List.size_toArray]; omega)) ⟨e, ?_⟩
  refine ⟨.non, _, I.lset (its' := its.take k.toNat ++ w :: its.drop k.toNat) hH e ?_ ((r.take k.toNat).append (.cons rw' (r.drop k.toNat))) ?_, rfl, q⟩
  · have hk : ¬ k < 0 := by omega
    have hm : min k.toNat its.length = k.toNat := by omega
    simp [hk, hm]
    rw [List.take_of_length_le (by rw [List.length_drop]; exact Nat.le_refl _)]
  · simp only [List.length_append, List.length_cons, List.length_take, List.length_drop]
    omega
theorem E_ins (hv : PE X (.Name n p1) (tVar i)) (ha : PE X a (tE X.K EC W ma)) (hb : PE X b (tE X.K EC W mb)) (na : noStar a = true) (nb : noStar b = true) (hl : (ap.endLine == cp.line) = true) :
    PE X (.Call (.Attribute (.Name n p1) "insert" ap) [a, b] [] cp) (tE X.K EC W ((ownL i).bind fun _ => (frz ma).bind fun q => (frz mb).bind fun d => (ownL i).bind fun xs => insM i q d xs)) :=
  peW (pe_bm (r := rIns) PySem.F.plainAttrs_list PySem.F.slot_list_insert PySem.F.type_list_insert mt_ins hv (pa_cons (pe_frz ha) (pa_cons (pe_frz hb) pa_nil (star_cons nb _)) (star_cons na _)) (by rfl) (by rw [star_cons na, star_cons nb] <;> rfl) hl (star_cons na _) (star_all [b] cp X.env (by rw [List.all_cons, nb] <;> rfl))) fun σ H Q ⟨F, s, k, w⟩ => by
    obtain ⟨xs, e, _, w⟩ := Wp.ownL w
    obtain ⟨p, ep, vs, hp, rv⟩ := k.ow i _ e
    refine ⟨.ref p, ep, .inl ⟨rfl, vs, SqL.of hp⟩, F, s, k, w.bind.mono fun d s1 hd v H1 ad => ?_⟩
    refine ⟨F, s1, ad.ok, ((hd.on ad.fr).bind).mono fun d2 s2 hd v2 H2 ad2 => ?_⟩
    obtain ⟨xs1, e1, _, hd⟩ := Wp.ownL hd
    obtain ⟨p1, ep1, vs1, hp1, rv1⟩ := ad2.ok.ow i _ e1
    rw [ep] at ep1
    cases ep1
    have f2 := ad.fr.trans ad2.fr
    have r1 := Rp.mono ad2.fr.le _ _ ad.rp
    cases d with
    | int z =>
      have hd : Wp X.K EC W F s1 σ H1 ((if 0 ≤ z ∧ z ≤ xs1.length ∧ xs1.length < sizeLine then nonM i (xs1.take z.toNat ++ d2 :: xs1.drop z.toNat) else bad) s2) (fun z' s' => ∀ v' H', AftS X.K F s σ H z' s' v' H' → Q v' H') := hd
      by_cases c : 0 ≤ z ∧ z ≤ xs1.length ∧ xs1.length < sizeLine
      · rw [if_pos c] at hd
        cases r1
        refine ⟨p, vs1, z, v2, rfl, rfl, hp1, c.1, by rw [rv1.length]; exact c.2.1, by rw [rv1.length]; exact c.2.2, ?_⟩
        refine non_use ad2.ok e1 ep ((rv1.take z.toNat).append (.cons ad2.rp (rv1.drop z.toNat))) ((hd.on ad2.fr).mono fun y s' hz v' H' aft => hz v' H' (aft.back f2))
      · rw [if_neg c] at hd
        exact hd.elim
    | _ => exact hd.elim
end
end Hg
set_option Elab.async false
set_option linter.all false
set_option maxRecDepth 100000
set_option maxHeartbeats 400000
/-! One rule a term: values put together by `or`, dicts with plain keys. -/
namespace Hg
open PySem PySem.Spec PyProof.Rows L2
section
variable {X : Cx} {EC : Nat → Addr} {W : WX} {C : Cal} {e a b c : Expr} {es : List Expr} {m ma mb mc : M Sl} {pos : Pos}
theorem RpA.emp {K : PySem.W.Frag} {H : Hp} {vs : List V} {ds : List D} (h : RpA K H vs ds) : vs.isEmpty = ds.isEmpty := by
  cases h <;> rfl
theorem tru_of {K : PySem.W.Frag} {N : NS} {H : Hp} {v : V} {d : D} {k : Bool} (r : Rp K (Hid N H) v d) (e : truD d = some k) : TruV K v H k := by
  cases d with
  | none => cases r; cases e; exact rfl
  | bool q => cases r; cases e; exact rfl
  | int i => cases r; cases e; exact rfl
  | str x => cases e
  | list xs =>
    cases e
    cases r with
    | lst x y => exact .inl ⟨_, hid_le.sqL x.sqL, by rw [y.emp]⟩
  | tuple xs =>
    cases e
    cases r with
    | tup x y => exact .inr (.inl ⟨_, hid_le.sqT x, by rw [y.emp]⟩)
  | dict xs => cases e
theorem E_orv {p : Pos} (ha : PE X a (tE X.K EC W ma)) (hb : PE X b (tE X.K EC W mb)) : PE X (.BoolOp .Or [a, b] p) (tE X.K EC W ((frz ma).bind fun d => (lift (truD d)).bind fun k => if k then M.pure (.sh d) else mb)) :=
  peW (pe_orT (pe_frz ha) (pe_one hb)) fun σ H Q ⟨F, s, k, w⟩ => ⟨F, s, k, w.bind.mono fun d s1 hd v H1 ad => by
    obtain ⟨q, e, hd⟩ := hd.bind.lift
    refine ⟨q, tru_of ad.rp e, ?_⟩
    cases q with
    | true =>
      rw [if_pos rfl]
      have hd : ∀ v H', AftS X.K F s σ H (.sh d) s1 v H' → Q v H' := hd
      exact hd v H1 ad
    | false =>
      rw [if_neg (by decide)]
      exact ⟨F, s1, ad.ok, (Wp.on ad.fr hd).mono fun r s2 hr u H2 ar => hr u H2 (ar.back ad.fr)⟩⟩
theorem std_tru (h : stdT a = true) : ∀ whole, isTrue a X.env whole = (do let v ← whole; standAt a.pos; holding [v] (truthy v)) := by
  intro whole
  cases a <;> first | rfl | (cases h)
theorem P_orv {p : Pos} (h : stdT a = true) (ha : PE X a (tE X.K EC W ma)) (hb : PT X b (tBo X.K EC W (testM mb))) : PT X (.BoolOp .Or [a, b] p) (tBo X.K EC W (testM ((frz ma).bind fun d => (lift (truD d)).bind fun k => if k then M.pure (.sh d) else mb))) :=
  ptW (pw_or (pt_truth (pe_frz ha) (std_tru h)) (pw_or1 hb)).pt fun σ H Q ⟨F, s, k, w⟩ => ⟨F, s, k, by
    have w : Wp X.K EC W F s σ H (((frz ((frz ma).bind fun d => (lift (truD d)).bind fun k => if k then M.pure (.sh d) else mb)).bind fun d => match d with
      | .bool b => M.pure b
      | _ => bad) s) _ := w
    refine w.bind.bind.bind.mono fun d s1 hd v H1 ad => ?_
    cases e : truD d with
    | none => rw [e] at hd; exact hd.elim
    | some q =>
      rw [e] at hd
      refine ⟨q, tru_of ad.rp e, ?_⟩
      cases q with
      | true =>
        rw [if_pos rfl]
        cases d with
        | bool b =>
          cases e
          have hd : ∀ H', AftB X.K F s σ H s1 H' → Q true H' := hd
          exact hd H1 ⟨ad.ok, ad.fr⟩
        | _ => exact hd.elim
      | false =>
        rw [if_neg (by decide)]
        refine ⟨F, s1, ad.ok, ?_⟩
        cases z : mb s1 with
        | bad => 
          have hd : Wp X.K EC W F s σ H (mb s1) _ := hd
          rw [z] at hd
          exact hd.elim
        | err e2 s2 =>
          have hd : Wp X.K EC W F s σ H (mb s1) _ := hd
          rw [z] at hd
          have e3 : testM mb s1 = .err e2 s2 := by
            show ((mb s1).bind _).bind _ = _
            rw [z]
            rfl
          rw [e3]
          exact Wp.on ad.fr hd
        | ok r s2 =>
          have hd : Wp X.K EC W F s σ H (mb s1) _ := hd
          rw [z] at hd
          cases r with
          | un => exact hd.elim
          | sh d2 =>
            cases d2 with
            | bool b2 =>
              have hd : ∀ H', AftB X.K F s σ H s2 H' → Q b2 H' := hd
              have e3 : testM mb s1 = .ok b2 s2 := by
                show ((mb s1).bind _).bind _ = _
                rw [z]
                rfl
              rw [e3]
              intro H2 a2
              exact hd H2 ⟨a2.ok, ad.fr.trans a2.fr⟩
            | _ => exact hd.elim
          | ow o => cases o <;> exact hd.elim⟩
/-! ### look-ups -/
def kyOf : D → Option Key
  | .int i => some (.inl i)
  | .str x => some (.inr x)
  | _ => none
theorem kyOf_key {d : D} {k : Key} (h : kyOf d = some k) : d = keyD k := by
  cases d <;> first | (cases h; rfl) | cases h
theorem keyEq_iff {j : Key} {d : D} {k : Key} (h : kyOf d = some k) : keyEq (keyD j) d = decide (j = k) := by
  cases d with
  | int i =>
    cases h
    cases j with
    | inl z => show decide (z = i) = _; simp
    | inr z => rfl
  | str x =>
    cases h
    cases j with
    | inl z => rfl
    | inr z => show decide (z = x) = _; simp
  | _ => cases h
theorem keyD_key (k : Key) : kyOf (keyD k) = some k := by cases k <;> rfl
theorem look_of {K : PySem.W.Frag} {H : Hp} {k : Key} {d : D} (hk : kyOf d = some k) : ∀ {ks : List (Key × V)} {kvs : List (D × D)}, RpK K H ks kvs → (match lookD kvs d with
    | some v => ∃ u, valV ks k = some u ∧ Rp K H u v
    | none => valV ks k = none)
  | _, _, .nil => rfl
  | _, _, .cons (k := j) (v := v) (vs := vs) (d := e) (ds := ds) r q => by
    have ih := look_of hk q
    unfold lookD
    rw [keyEq_iff hk]
    by_cases c : j = k
    · rw [decide_eq_true c, if_pos rfl]
      exact ⟨v, valV_pos c, r⟩
    · rw [decide_eq_false c, if_neg (by decide)]
      have z : valV ((j, v) :: vs) k = valV vs k := valV_neg c
      rw [z]
      exact ih
theorem look_key {kvs : List (D × D)} {d v : D} (h : lookD kvs d = some v) : ∃ k, kyOf d = some k := by
  induction kvs with
  | nil => cases h
  | cons p r ih =>
    obtain ⟨k, u⟩ := p
    unfold lookD at h
    by_cases c : keyEq k d = true
    · cases d with
      | int i => exact ⟨_, rfl⟩
      | str x => exact ⟨_, rfl⟩
      | _ => cases k <;> cases c
    · rw [if_neg c] at h
      exact ih h
theorem look_T {K : PySem.W.Frag} {H : Hp} {d : D} : ∀ {ks : List (List Key × V)} {kvs : List (D × D)}, RpT K H ks kvs → lookD kvs d = none
  | _, _, .nil => rfl
  | _, _, .cons (k := j) (v := v) (d := e) (ds := ds) r q => by
    unfold lookD
    have z : keyEq (.tuple (j.map keyD)) d = false := by cases d <;> rfl
    rw [z, if_neg (by decide)]
    exact look_T q
theorem key_v {K : PySem.W.Frag} {H : Hp} {v : V} {d : D} {k : Key} (r : Rp K H v d) (h : kyOf d = some k) : v = kV k := by
  cases d with
  | int i => cases h; cases r; rfl
  | str x => cases h; cases r; rfl
  | _ => cases h
theorem E_dix {oa : M Op} (hu : X.A.units + 1 < cLine) (ha : PE X a (tO X.K EC W oa)) (hb : PE X b (tE X.K EC W mb)) (hs : NoSl b) : PE X (.Subscript a b pos) (tE X.K EC W (oa.bind fun x => (frz mb).bind fun e => (resO x).bind fun d => lift ((dixD d e).map .sh))) :=
  peW (pe_dget hu ha (pe_frz hb) hs) fun σ H Q ⟨F, s, k, w⟩ => ⟨F, s, k, w.bind.mono fun x s1 hx v H1 ax => by
    obtain ⟨k1, f1⟩ := ax.ok k
    refine ⟨F, s1, k1, ((hx.on f1).bind).mono fun y s2 hy u H2 ay => ?_⟩
    obtain ⟨d, e1, hy1⟩ := (hy.on ay.fr).res
    obtain ⟨r, e3, hy2⟩ := hy1.lift
    obtain ⟨q, e4, rfl⟩ := Option.map_eq_some_iff.mp e3
    have rd := (ax.use ay.ok ay.fr e1).2
    clear hy hy1
    cases d with
    | dict kvs =>
      have e4 : lookD kvs y = some q := e4
      obtain ⟨p, rfl, z⟩ := rd
      obtain ⟨key, hk⟩ := look_key e4
      rcases z with ⟨ks, hp, rk⟩ | ⟨ks, hp, rk⟩
      · rw [look_T rk] at e4
        cases e4
      · have l := look_of hk rk
        rw [e4] at l
        obtain ⟨u', l1, l2⟩ := l
        refine ⟨p, u', rfl, ?_, hy2 u' H2 ⟨ay.ok, f1.trans ay.fr, l2⟩⟩
        rw [key_v ay.rp hk, ← l1]
        exact DGet.k hp
    | _ => cases e4⟩
/-! ### displays -/
theorem keys_at : ∀ (l : List Str) (es : List (Option Expr)), chKs l es = true → es.all (·.isSome) = true ∧ es.length = l.length
  | [], es, h => by
    unfold chKs at h
    cases es with
    | nil => exact ⟨rfl, rfl⟩
    | cons o es => cases h
  | y :: ys, es, h => by
    unfold chKs at h
    cases es with
    | nil => cases h
    | cons o es =>
      cases o with
      | none => cases h
      | some e =>
        have h : (keyC y e && chKs ys es) = true := h
        rw [Bool.and_eq_true] at h
        obtain ⟨i1, i2⟩ := keys_at ys es h.2
        exact ⟨i1, by rw [List.length_cons, List.length_cons, i2]⟩
/-- each expression by itself -/
def PEs (X : Cx) (EC : Nat → Addr) (W : WX) (C : Cal) : Exs → List Expr → Prop
  | .nil, [] => True
  | .cons e es, a :: l => PE X a (tE X.K EC W (evE C e)) ∧ PEs X EC W C es l
  | _, _ => False
noncomputable def trsOf (K : PySem.W.Frag) (EC : Nat → Addr) (W : WX) (C : Cal) : List Str → Exs → List (TE × TE)
  | x :: xs, .cons e es => (tC (.str x), tE K EC W (evE C e)) :: trsOf K EC W C xs es
  | _, _ => []
theorem pps_of : ∀ {ys : List Str} {keys : List (Option Expr)} {es : Exs} {l : List Expr}, chKs ys keys = true → PEs X EC W C es l → ys.length = l.length → PPs X pos keys l (trsOf X.K EC W C ys es)
  | [], keys, es, l, h, h2, hl => by
    obtain ⟨_, q⟩ := keys_at _ _ h
    cases keys with
    | cons a b => cases q
    | nil =>
      cases l with
      | cons a b => cases hl
      | nil =>
        unfold trsOf
        exact pps_nil
  | y :: ys, keys, es, l, h, h2, hl => by
    cases l with
    | nil => cases hl
    | cons a l =>
      unfold chKs at h
      cases keys with
      | nil => cases h
      | cons o keys =>
        cases o with
        | none => cases h
        | some e =>
          have h : (keyC y e && chKs ys keys) = true := h
          rw [Bool.and_eq_true] at h
          obtain ⟨h1, h3⟩ := h
          cases es with
          | nil => exact h2.elim
          | cons ee es =>
            obtain ⟨q1, q2⟩ := h2
            have q3 := pps_of h3 q2 (by simpa using hl)
            unfold keyC at h1
            split at h1
            · cases of_decide_eq_true h1
              exact pps_cons pe_str q1 q3
            · cases h1
theorem T_pairs {F : NS} : ∀ {ys : List Str} {es : Exs} {s s' : S} {σ : L2.St} {H : Hp} {ds : List D} {RR : List (V × V) → Hp → Prop}, evDs C es s = .ok ds s' → ds.length = ys.length → StOk X.K F s σ H →
    (∀ us H', StOk X.K F s' σ H' → Fr F (Nn F s σ) H (Nn F s' σ) H' → RpA X.K (Hid (Nn F s' σ) H') us ds → RR ((ys.zip us).map fun p => (.str p.1, p.2)) H') → tPairs (trsOf X.K EC W C ys es) σ H RR
  | ys, .nil, s, s', σ, H, ds, RR, h, hl, k, w => by
    cases (show R.ok [] s = .ok ds s' from h)
    cases ys with
    | cons a b => cases hl
    | nil => exact w [] H k Fr.refl .nil
  | ys, .cons e es, s, s', σ, H, ds, RR, h, hl, k, w => by
    obtain ⟨d, s1, h1, h2⟩ := M.bind_ok (show ((frz (evE C e)).bind fun d => (evDs C es).bind fun ds => M.pure (d :: ds)) s = .ok ds s' from h)
    obtain ⟨ds', s2, h3, h4⟩ := M.bind_ok h2
    cases (show R.ok (d :: ds') s2 = .ok ds s' from h4)
    obtain ⟨r, s3, h5, h6⟩ := M.bind_ok h1
    cases ys with
    | nil => cases hl
    | cons y ys =>
      refine ⟨F, s, k, ?_⟩
      rw [h5]
      intro v H1 av
      have ed : r.data = some d ∧ s3 = s1 := by
        cases z : r.data with
        | none => rw [z] at h6; cases h6
        | some d' => rw [z] at h6; cases h6; exact ⟨rfl, rfl⟩
      obtain ⟨ed, rfl⟩ := ed
      have ad := av.data ed
      refine T_pairs (F := F) h3 (by simpa using hl) ad.ok fun us H' k' f' r' => ?_
      exact w (v :: us) H' k' (ad.fr.trans f') (.cons (Rp.mono f'.le _ _ ad.rp) r')
theorem val_none {κ : Type} [DecidableEq κ] {kvs : List (κ × V)} {k : κ} (h : k ∉ kvs.map (·.1)) : valV kvs k = none := by
  induction kvs with
  | nil => rfl
  | cons p r ih =>
    rw [List.map_cons, List.mem_cons, not_or] at h
    rw [valV_neg fun z => h.1 z.symm]
    exact ih h.2
theorem merge_new : ∀ (more acc : List (Key × V)), ((acc ++ more).map (·.1)).Nodup → mergeK acc more = acc ++ more
  | [], acc, _ => by rw [List.append_nil]; rfl
  | p :: r, acc, h => by
    have e : putK acc p.1 p.2 = acc ++ [p] := by
      refine putK_new _ (val_none ?_)
      rw [List.map_append, List.map_cons] at h
      exact fun z => (List.nodup_append.mp h).2.2 _ z _ List.mem_cons_self rfl
    show mergeK (putK acc p.1 p.2) r = _
    rw [e, merge_new r (acc ++ [p]) (by rw [List.append_assoc]; exact h), List.append_assoc]
    rfl
theorem rpK_zip {K : PySem.W.Frag} {H : Hp} : ∀ {l : List Str} {us : List V} {ds : List D}, RpA K H us ds → RpK K H ((l.zip us).map fun p => (Sum.inr p.1, p.2)) ((l.zip ds).map fun p => (.str p.1, p.2))
  | [], _, _, _ => .nil
  | _ :: _, _, _, .nil => .nil
  | x :: l, _, _, .cons a b => .cons (k := .inr x) a (rpK_zip b)
theorem zip_keys {l : List Str} : ∀ {us : List V}, us.length = l.length → ((l.zip us).map fun p => ((Sum.inr p.1 : Key), p.2)).map (·.1) = l.map Sum.inr := by
  induction l with
  | nil => intro us _; rfl
  | cons x l ih =>
    intro us h
    cases us with
    | nil => cases h
    | cons u us =>
      rw [List.zip_cons_cons, List.map_cons, List.map_cons, List.map_cons, ih (by simpa using h)]
theorem E_dic {ys : List Str} {keys : List (Option Expr)} {vs : Exs} {l : List Expr} (hk : chKs ys keys = true) (hv : PEs X EC W C vs l) (hl : keys.length = l.length) : PE X (.Dict keys l pos) (tE X.K EC W (noErr ((evDs C vs).bind fun ds => lift (dicD ys ds)))) := by
  obtain ⟨k1, k2⟩ := keys_at _ _ hk
  by_cases c0 : ys = []
  · subst c0
    have e1 : keys = [] := List.length_eq_zero_iff.mp k2
    subst e1
    have e2 : l = [] := List.length_eq_zero_iff.mp hl.symm
    subst e2
    cases vs with
    | cons a b => exact hv.elim
    | nil =>
      refine peW pe_dnewK fun σ H Q ⟨F, s, k, w⟩ => ?_
      intro p hp
      have w : ∀ v H', AftS X.K F s σ H (.ow (.dic [])) s v H' → Q v H' := w
      obtain ⟨ka, fa⟩ := k.newOw (o := .dK []) .dK hp
      exact w _ _ ⟨p, rfl, ka, fa, fun z => k.free hp (.inl z), .inr ⟨[], upd_same, .nil⟩⟩
  by_cases c : ys.Nodup ∧ ys.length ≤ 15 ∧ ys ≠ []
  · refine peW (pe_disp (pps_of hk hv (by rw [← k2, hl])) k1 hl (fun z => c.2.2 (by rw [z] at k2; exact List.length_eq_zero_iff.mp k2.symm)) (by rw [k2]; exact c.2.1)) fun σ H Q ⟨F, s, k, w⟩ => ?_
    intro p hp
    cases q : ((evDs C vs).bind fun ds => lift (dicD ys ds)) s with
    | bad =>
      unfold noErr at w
      rw [q] at w
      exact w.elim
    | err e s' =>
      unfold noErr at w
      rw [q] at w
      exact w.elim
    | ok r s' =>
      unfold noErr at w
      rw [q] at w
      have w : ∀ v H', AftS X.K F s σ H r s' v H' → Q v H' := w
      obtain ⟨ds, s1, e1, e2⟩ := M.bind_ok q
      unfold dicD at e2
      by_cases c2 : ys.Nodup ∧ ys.length ≤ 15 ∧ ys ≠ [] ∧ ds.length = ys.length
      · rw [if_pos c2] at e2
        cases (show R.ok (Sl.ow (.dic ((ys.zip ds).map fun p => (.str p.1, p.2)))) s1 = .ok r s' from e2)
        obtain ⟨ka, fa⟩ := k.newOw (o := .dK []) .dK hp
        refine T_pairs (F := Ad F p) e1 c2.2.2.2 ka fun us H2 k2 f2 r2 => ?_
        have ul := r2.length
        have hp2 : H2 p = some (.dK []) := (f2.keep p (.inr rfl)).trans upd_same
        refine ⟨hp2, (ys.zip us).map fun p => (Sum.inr p.1, p.2), ?_, ?_, ?_⟩
        · rw [List.map_map]
          rfl
        · rw [List.length_map, List.length_zip]
          omega
        · have em : mergeK [] ((ys.zip us).map fun p => ((Sum.inr p.1 : Key), p.2)) = (ys.zip us).map fun p => (Sum.inr p.1, p.2) := by
            refine merge_new _ [] ?_
            rw [List.nil_append, zip_keys (by omega)]
            exact List.Pairwise.map _ (fun a b h z => h (by injection z)) c2.1
          rw [em]
          have nD : Nn (Ad F p) s' σ p := .inl (.inr rfl)
          have l7 : Le (Hid (Nn (Ad F p) s' σ) H2) (Hid (Nn (Ad F p) s' σ) (upd H2 p (.dK ((ys.zip us).map fun p => (Sum.inr p.1, p.2))))) := fun b u _ z => by
            obtain ⟨a, z⟩ := hid_iff.mp z
            have nb : b ≠ p := fun y => a (y ▸ nD)
            exact hid_iff.mpr ⟨a, by rw [upd_ne nb]; exact z⟩
          have k7 : StOk X.K (Ad F p) s' σ (upd H2 p (.dK ((ys.zip us).map fun p => (Sum.inr p.1, p.2)))) := by
            refine ⟨k2.len, fun j d' e => ?_, fun j o' e => ?_, k2.inj, k2.ap, fun b z => ?_, ?_⟩
            · obtain ⟨v, q1, q2⟩ := k2.sh j d' e
              exact ⟨v, q1, Rp.mono l7 _ _ q2⟩
            · obtain ⟨p', q1, q2⟩ := k2.ow j o' e
              exact ⟨p', q1, q2.mono (upd_ne fun y => k2.ap p' ⟨j, o', e, q1⟩ (.inr y)) l7⟩
            · by_cases hb : b = p
              · rw [hb]
                exact ⟨_, upd_same, .dK⟩
              · rw [upd_ne hb]
                exact k2.dom b z
            · exact k2.tb.put hp2 .dK
          have ff := fa.trans (⟨fun b z => f2.keep b (.inl z), f2.imm⟩ : Fr F _ _ _ _)
          refine w _ _ ⟨p, rfl, k7, ⟨fun b z => ?_, fun b u n tb z => ?_⟩, fun z => k.free hp (.inl z), .inr ⟨_, upd_same, RpK.mono l7 _ _ (rpK_zip r2)⟩⟩
          · have nb : b ≠ p := fun y => by
              obtain ⟨u, e, _⟩ := k.dom b z
              rw [y, hp] at e
              cases e
            rw [upd_ne nb]
            exact ff.keep b z
          · obtain ⟨z1, n1⟩ := ff.imm b u n tb z
            have nb : b ≠ p := fun y => n1 (y ▸ nD)
            exact ⟨by rw [upd_ne nb]; exact z1, n1⟩
      · rw [if_neg c2, if_neg (fun z => c0 z.1)] at e2
        cases e2
  · refine ⟨fun pins s σ H Q I ⟨F, t, k, w⟩ => ?_⟩
    exfalso
    have z : ∀ ds, dicD ys ds = none := fun ds => by
      unfold dicD
      rw [if_neg fun z => c ⟨z.1, z.2.1, z.2.2.1⟩, if_neg (fun z => c0 z.1)]
    unfold noErr at w
    cases q : ((evDs C vs).bind fun ds => lift (dicD ys ds)) t with
    | bad => rw [q] at w; exact w.elim
    | err e s' => rw [q] at w; exact w.elim
    | ok r s' =>
      obtain ⟨ds, s1, e1, e2⟩ := M.bind_ok q
      rw [z] at e2
      cases e2
/-! ### get -/
theorem few_two {env : Env} {cp : Pos} (h : noStar a = true) (h2 : noStar b = true) : ((backTo cp (starEach [a, b] env)).all (fun x => !x.1) && (backToKw cp (keywordEach [] env)).all (fun x => x.1.isSome)
      && decide (([a, b] : List Expr).length + ([] : List Keyword).length + (if ([] : List Keyword).isEmpty then 0 else 1) < 30)) = true := by
  rw [star_cons h, star_cons h2]
  rfl
end
end Hg
set_option Elab.async false
set_option linter.all false
set_option maxRecDepth 100000
set_option maxHeartbeats 400000
/-! Every expression runs as its term says. -/
namespace Hg
open PySem PySem.Spec PyProof.Rows L2 RZ RT
def plainE : Expr → Bool
  | .Starred .. => false
  | .Slice .. => false
  | .Set .. => false
  | _ => true
section
variable {a : Expr}
theorem plain_star (h : plainE a = true) : noStar a = true := by cases a <;> first | rfl | (cases h)
theorem plain_ix (h : plainE a = true) : PlainIx a := by
  intro o i
  cases a <;> first | rfl | (cases h)
theorem plain_fold (h : plainE a = true) (env : Env) (x : Value) : foldedSetIterable a env x = pure x := by
  cases a <;> first | rfl | (cases h)
theorem plain_in (h : plainE a = true) (op : CmpOp) : behindInMarks op a = false := by
  cases a <;> first | rfl | (cases h)
end
/-- a lambda may be made here -/
def LamHd (X : Cx) : Prop := ∃ (c t : Addr), LamX.TabB X.base X.mg c t ∧ X.env.code = .ref c ∧ (t, X.env.qual ++ "<lambda>") ∈ TbL X.K ∧ ∀ p ∈ TbL X.K, p.1 = t → p.2 = X.env.qual ++ "<lambda>"
/-- nothing but a table stands there -/
def Np (H : Hp) (p : Addr) : Prop := ∀ o, NT o → H p ≠ some o
/-- what a refusal's teller makes of a lambda's run -/
def TRef (K : PySem.W.Frag) (EC : Nat → Addr) (ks : List Nat) : (XK → Hp → VK → Prop) → Hp → VK → Prop := fun tl H Q =>
  tl (fun cls d H' => ∃ (c k : Nat), cls = .ref (EC c) ∧ d = none ∧ ks[c]? = some k ∧ Tb K H' ∧ ∀ H'' p, LamX.ExtN H' H'' → Tb K H'' → Np H' p → H'' p = some (.lst [.int k]) → Q (.ref p) H'') H fun _ H' => Tb K H' ∧ ∀ H'', LamX.ExtN H' H'' → Tb K H'' → Q .non H''
/-- a table of the module, by text -/
def TabAt (X : Cx) (g : Str) (tab : List (Str × Int)) : Prop := ∃ d es n, X.mg g = some (.ref d) ∧ KDict X.K X.w d es n ∧ ∀ z, ∃ r, PySem.W.nsIn X.K d z = some r ∧ match tab.lookup z with
  | some i => ∃ u, r = some u ∧ RelV (.int i) u
  | none => r = none
structure RefX (X : Cx) (EC : Nat → Addr) (ks : List Nat) (n : Str) (a : Str) (g : Addr) (pg : Arguments) (bg : List Stmt) (sg : Scope) (dV kV doc pm cdv ct oc : Value) (an od : Option Addr) (osl : Array (Option Value)) (Ng : List Str) : Prop where
  hm : X.mg n = some (.ref g)
  hk : PySem.W.keepIn X.K (.ref g) = true
  lk : X.K.lookup g = some ⟨oc, od, .func (PySem.W.fnOf n n pg bg sg dV kV doc pm an cdv ct), osl⟩
  hc : PySem.W.codeIn X.K cdv n = true
  hb : Binds X.K (PySem.W.fnOf n n pg bg sg dV kV doc pm an cdv ct) [a] []
  hS : FnScope Ng [a] sg
  hN : Ng[0]? = some a
  hv : Vis sg a
  hd : (a == ("__debug__" : Str)) = false
  hcd : (a == ("__classdict__" : Str)) = false
  hG : LamX.GivesTo X Ng n sg g cdv bg a (X.env.qual ++ "<lambda>") (TRef X.K EC ks)
def RefAt (X : Cx) (EC : Nat → Addr) (ks : List Nat) (n : Str) : Prop := ∃ a g pg bg sg dV kV doc pm cdv ct oc an od osl Ng, RefX X EC ks n a g pg bg sg dV kV doc pm cdv ct oc an od osl Ng
/-- where a piece of code stands -/
structure Ctx (EC : Nat → Addr) (C : Cal) (k : Nat) (X : Cx) (W : WX) (x : Sx) : Prop where
  sc : X.env.scope = x.sc
  nm : X.N = x.N
  kd : X.env.scope.kind = .function
  nd : X.N.Nodup
  calm : X.calm = true
  tk : Takes X W
  room : Room k X.A
  un : X.A.units + 65 < cLine
  free : ∀ n, x.free.contains n = true → X.mg n = none
  fn : ∀ f n, x.fn f = some n → FnAt X EC C k f n
  con : ∀ n d, C.con n = some d → ∃ v u, X.mg n = some u ∧ RelV v u ∧ ∀ H, Rp X.K H v d
  own : ∀ n, x.own n = true → X.fn n = true
  lam : x.lm = true → LamHd X
  rf : x.lm = true → ∀ run, C.lw = some run → ∀ r ks n, x.rf r = some ks → x.fn r = some n → RefAt X EC ks n
  lw : x.lm = true → ∀ run, C.lw = some run → ∃ j, k = j + 2 ∧ ∀ g m, x.fn g = some m → FnAt X EC (C.wr run) j g m
  tbl : ∀ g tab, x.tbs.contains (g, tab) = true → TabAt X g tab
def GoodE (EC : Nat → Addr) (C : Cal) (k : Nat) (e : Ex) : Prop := ∀ (X : Cx) (W : WX) (x : Sx) (a : Expr), Ctx EC C k X W x → chE x e a = true → plainE a = true ∧ PE X a (tE X.K EC W (evE C e)) ∧ PT X a (tBo X.K EC W (testM (evE C e)))
structure EsOk (EC : Nat → Addr) (C : Cal) (X : Cx) (W : WX) (es : Exs) (l : List Expr) : Prop where
  pl : l.all noStar = true
  ds : PA X l (tDs X.K EC W (evDs C es))
  os : PA X l (tOs X.K EC W (evOs C es))
  as : ∀ bs, PA X l (tAs X.K EC W (evAs C bs es))
  pw : PEs X EC W C es l
  tm : ∀ a, l = [a] → PE X a (tE X.K EC W (evT C es))
  an : ∀ a r pos, l = a :: r → PE X (.BoolOp .And l pos) (tBv X EC W (evAnd C es)) ∧ PW X (.BoolOp .And l pos) (tBo X.K EC W (evAnd C es))
  or : ∀ a r pos, l = a :: r → PE X (.BoolOp .Or l pos) (tBv X EC W (evOr C es)) ∧ PW X (.BoolOp .Or l pos) (tBo X.K EC W (evOr C es))
def GoodEs (EC : Nat → Addr) (C : Cal) (k : Nat) (es : Exs) : Prop := ∀ (X : Cx) (W : WX) (x : Sx) (l : List Expr), Ctx EC C k X W x → chEs x es l = true → EsOk EC C X W es l
def GoodS (EC : Nat → Addr) (C : Cal) (k : Nat) (sr : Src) : Prop := ∀ (X : Cx) (W : WX) (x : Sx) (t a : Expr), Ctx EC C k X W x → chS x sr t a = true → plainE a = true ∧ PI X t a (tSr X.K EC W (evSrc C sr))
def GoodT (EC : Nat → Addr) (C : Cal) (k : Nat) (tg : Tg) : Prop := ∀ (X : Cx) (W : WX) (x : Sx) (a : Expr), Ctx EC C k X W x → chT x tg a = true → noStar a = true ∧ PG X a (tPut X.K tg)
def GoodTs (EC : Nat → Addr) (C : Cal) (k : Nat) (ts : Tgs) : Prop := ∀ (X : Cx) (W : WX) (x : Sx) (l : List Expr), Ctx EC C k X W x → chTs x ts l = true → l.all noStar = true ∧ PGs X l (tPuts X.K ts)
section
variable {EC : Nat → Addr} {C : Cal} {k : Nat} {X : Cx} {W : WX} {x : Sx} {a : Expr} {n : Str} {i : Nat}
theorem okName_of (h : okName n = true) : (n == ("__debug__" : Str)) = false ∧ (n == ("__classdict__" : Str)) = false ∧ n ≠ "__name__" := by
  unfold okName at h
  simp only [Bool.and_eq_true, Bool.not_eq_true'] at h
  exact ⟨h.1.1, h.1.2, fun z => by rw [z] at h; exact absurd h.2 (by decide)⟩
theorem Ctx.name (c : Ctx EC C k X W x) {p : Pos} (h : x.var i n = true) : PE X (.Name n p) (tVar i) := by
  unfold Sx.var at h
  simp only [Bool.and_eq_true, decide_eq_true_eq] at h
  obtain ⟨⟨h1, h2⟩, h3⟩ := h
  obtain ⟨d1, d2, _⟩ := okName_of h3
  refine pe_var (by rw [c.nm]; exact h1) ?_ d1 d2
  rw [c.sc]
  unfold visB at h2
  split at h2 <;> first | (exact .inl (by assumption)) | (exact .inr (.inl (by assumption))) | (exact .inr (.inr (by assumption))) | (cases h2)
theorem Ctx.gl (c : Ctx EC C k X W x) (h : x.glo n = true) : Gl X n ∧ (n == ("__debug__" : Str)) = false ∧ n ≠ "__name__" := by
  unfold Sx.glo at h
  simp only [Bool.and_eq_true] at h
  obtain ⟨d1, _, d3⟩ := okName_of h.2
  refine ⟨?_, d1, d3⟩
  show X.env.scope.names.lookup n = _
  rw [c.sc]
  have h1 := h.1
  unfold glB at h1
  split at h1
  · assumption
  · cases h1
theorem Ctx.bl (c : Ctx EC C k X W x) (h : x.blt n = true) : Gl X n ∧ X.mg n = none := by
  unfold Sx.blt at h
  rw [Bool.and_eq_true] at h
  exact ⟨(c.gl h.1).1, c.free n h.2⟩
theorem Ctx.blkOk (c : Ctx EC C k X W x) {scope : Scope} {own : List Nat} (h : blkC x.N x.sc scope (ownP x.N own) = true) : BlkOk X.N X.env.scope scope (ownP X.N own) := by
  rw [c.nm, c.sc]
  exact blkOk_by h
theorem Ctx.blk (c : Ctx EC C k X W x) {scope : Scope} {own : List Nat} (h : BlkOk X.N X.env.scope scope (ownP X.N own)) (s : Shared) (H : Hp) (A : Addr) (cl : List (Str × Addr)) (fp : List Addr) :
    Ctx EC C k (X.blk s H scope (compEnvC scope cl A X.env) fp) WF (x.blk scope) := by
  refine ⟨?_, c.nm, h.kind, c.nd, c.calm, takes0, c.room, c.un, c.free, c.fn, c.con, fun n h => h, (fun z => nomatch z), (fun z => nomatch z), (fun z => nomatch z), c.tbl⟩
  show relS scope X.env.scope = relS scope x.sc
  rw [c.sc]
theorem opnd_ok {e : Ex} (h : GoodE EC C k e) (c : Ctx EC C k X W x) (q : chE x e a = true) : PE X a (tO X.K EC W (opnd e (evE C e))) := by
  have gen := (h X W x a c q).2.1
  cases e with
  | var i =>
    clear gen
    unfold chE at q
    split at q
    · exact peO_var (c.name q)
    · cases q
  | _ => exact peO_of gen
theorem arg_ok {e : Ex} (h : GoodE EC C k e) (c : Ctx EC C k X W x) (q : chE x e a = true) (b : Bool) : PE X a (tAg X.K EC W (argM b e (evE C e))) := by
  cases b with
  | false => exact G_d (h X W x a c q).2.1
  | true =>
    have no : ∀ {m : M Ag}, m = bad → PE X a (tAg X.K EC W m) := fun e => ⟨fun pins s σ H Q I ⟨F, t, k, w⟩ => by
      rw [e] at w
      exact w.elim⟩
    cases e with
    | var i =>
      clear no
      unfold chE at q
      split at q
      · exact G_io (c.name q)
      · cases q
    | _ => exact no rfl
/-- as a test: what is no test by its form -/
theorem pt_plain {m : M Sl} (h : PE X a (tE X.K EC W m)) (he : ∀ whole, isTrue a X.env whole = (do let v ← whole; standAt a.pos; holding [v] (truthy v))) : PT X a (tBo X.K EC W (testM m)) := P_val h he
/-! ### targets -/
theorem g_name : GoodT EC C k (.name i) := fun X W x a c h => by
  unfold chT at h
  split at h
  · rename_i n p
    refine ⟨rfl, T_name ?_⟩
    unfold Sx.tgt at h
    simp only [Bool.and_eq_true, decide_eq_true_eq] at h
    obtain ⟨⟨h1, h2⟩, h3⟩ := h
    have hN : X.N[i]? = some n := by rw [c.nm]; exact h1
    rw [← c.sc] at h2
    split at h2
    · rename_i hl
      exact pg_name c.nd hN (.inl hl) (.inr hl)
    · rename_i hl
      exact pg_name c.nd hN (.inr hl) (.inl (c.own n h2))
    · cases h2
  · cases h
theorem g_tup {ts : Tgs} (ih : GoodTs EC C k ts) : GoodT EC C k (.tup ts) := fun X W x a c h => by
  unfold chT at h
  split at h
  · obtain ⟨n, g⟩ := ih X W x _ c h
    exact ⟨rfl, T_tup c.calm g n h⟩
  · cases h
theorem g_nil : GoodTs EC C k .nil := fun X W x l c h => by
  unfold chTs at h
  split at h
  · exact ⟨rfl, T_nil⟩
  · cases h
theorem g_cons {t : Tg} {ts : Tgs} (h1 : GoodT EC C k t) (h2 : GoodTs EC C k ts) : GoodTs EC C k (.cons t ts) := fun X W x l c h => by
  unfold chTs at h
  split at h
  · rw [Bool.and_eq_true] at h
    obtain ⟨n1, g1⟩ := h1 X W x _ c h.1
    obtain ⟨n2, g2⟩ := h2 X W x _ c h.2
    exact ⟨by rw [List.all_cons, n1, n2] <;> rfl, T_cons n1 g1 g2⟩
  · cases h
/-! ### expressions -/
theorem s_var : GoodE EC C k (.var i) := fun X W x a c h => by
  unfold chE at h
  split at h
  · rename_i n p
    have z := peE_var (EC := EC) (W := W) (c.name (p := p) h)
    exact ⟨rfl, z, pt_plain z fun _ => rfl⟩
  · cases h
theorem s_con {v : V} {d : D} {e : Ex} (hp : plainE a = true) (h : PE X a (tC v)) (r : ∀ H, Rp X.K H v d) (he : evE C e = M.pure (.sh d)) (ht : ∀ whole, isTrue a X.env whole = (do let v ← whole; standAt a.pos; holding [v] (truthy v))) :
    plainE a = true ∧ PE X a (tE X.K EC W (evE C e)) ∧ PT X a (tBo X.K EC W (testM (evE C e))) := by
  have z := pe_con (EC := EC) (W := W) h r
  rw [← he] at z
  exact ⟨hp, z, pt_plain z ht⟩
theorem s_int {i : Int} : GoodE EC C k (.int i) := fun X W x a c h => by
  unfold chE at h
  split at h
  · cases of_decide_eq_true h
    exact s_con rfl pe_int (fun _ => .int _) rfl fun _ => rfl
  · cases h
theorem s_str {i : Str} : GoodE EC C k (.str i) := fun X W x a c h => by
  unfold chE at h
  split at h
  · cases of_decide_eq_true h
    exact s_con rfl pe_str (fun _ => .str _) rfl fun _ => rfl
  · cases h
theorem s_bl {i : Bool} : GoodE EC C k (.bl i) := fun X W x a c h => by
  unfold chE at h
  split at h
  · cases of_decide_eq_true h
    exact s_con rfl pe_bl (fun _ => .bl _) rfl fun _ => rfl
  · cases h
theorem s_non : GoodE EC C k .non := fun X W x a c h => by
  unfold chE at h
  split at h
  · exact s_con rfl pe_non (fun _ => .non) rfl fun _ => rfl
  · cases h
theorem s_glo {g : Str} : GoodE EC C k (.glo g) := fun X W x a c h => by
  unfold chE at h
  split at h
  · rename_i n p
    rw [Bool.and_eq_true] at h
    cases of_decide_eq_true h.1
    cases q : C.con g with
    | none =>
      have e : evE C (.glo g) = bad := by
        rw [evE, q]
        rfl
      have z : PE X (.Name g p) (tE X.K EC W (evE C (.glo g))) := ⟨fun pins s σ H Q I ⟨F, t, k, w⟩ => by
        rw [e] at w
        exact w.elim⟩
      exact ⟨rfl, z, pt_plain z fun _ => rfl⟩
    | some d =>
      obtain ⟨v, u, h1, h2, h3⟩ := c.con g d q
      obtain ⟨g1, g2, _⟩ := c.gl h.2
      exact s_con rfl (pe_glob g1 h1 h2 g2) h3 (by rw [evE, q] <;> rfl) fun _ => rfl
  · cases h
theorem s_bin {op : Operator} {e1 e2 : Ex} (h1 : GoodE EC C k e1) (h2 : GoodE EC C k e2) : GoodE EC C k (.bin op e1 e2) := fun X W x a c h => by
  unfold chE at h
  split at h
  · simp only [Bool.and_eq_true, decide_eq_true_eq] at h
    obtain ⟨⟨rfl, q1⟩, q2⟩ := h
    have z := E_bin (EC := EC) (W := W) (pos := by assumption) op (opnd_ok h1 c q1) (opnd_ok h2 c q2)
    exact ⟨rfl, z, pt_plain z fun _ => rfl⟩
  · cases h
theorem s_neg {e1 : Ex} (h1 : GoodE EC C k e1) : GoodE EC C k (.neg e1) := fun X W x a c h => by
  unfold chE at h
  split at h
  · simp only [Bool.and_eq_true, decide_eq_true_eq] at h
    obtain ⟨rfl, q1⟩ := h
    have z := E_neg (EC := EC) (W := W) (pos := by assumption) (h1 X W x _ c q1).2.1
    exact ⟨rfl, z, pt_plain z fun _ => rfl⟩
  · cases h
theorem s_cmp {op : CmpOp} {e1 e2 : Ex} (h1 : GoodE EC C k e1) (h2 : GoodE EC C k e2) : GoodE EC C k (.cmp op e1 e2) := fun X W x a c h => by
  unfold chE at h
  split at h
  · simp only [Bool.and_eq_true, decide_eq_true_eq] at h
    obtain ⟨⟨rfl, q1⟩, q2⟩ := h
    have p2 := (h2 X W x _ c q2).1
    exact ⟨rfl, E_cmp c.un op (opnd_ok h1 c q1) (opnd_ok h2 c q2) (plain_in p2 _), P_cmp c.un op (opnd_ok h1 c q1) (opnd_ok h2 c q2) (plain_in p2 _)⟩
  · cases h
theorem s_chain {o p : CmpOp} {e1 e2 e3 : Ex} (h1 : GoodE EC C k e1) (h2 : GoodE EC C k e2) (h3 : GoodE EC C k e3) : GoodE EC C k (.chain o p e1 e2 e3) := fun X W x a c h => by
  unfold chE at h
  split at h
  · simp only [Bool.and_eq_true, decide_eq_true_eq] at h
    obtain ⟨⟨⟨⟨rfl, rfl⟩, q1⟩, q2⟩, q3⟩ := h
    have p3 := (h3 X W x _ c q3).1
    have hm : ∀ m, lastMarks [o, p] [m, _] = false := fun _ => plain_in p3 p
    exact ⟨rfl, E_chain c.un o p (h1 X W x _ c q1).2.1 (h2 X W x _ c q2).2.1 (h3 X W x _ c q3).2.1 (hm _), P_chain c.un o p (h1 X W x _ c q1).2.1 (h2 X W x _ c q2).2.1 (h3 X W x _ c q3).2.1 (hm _)⟩
  · cases h
theorem s_not {e1 : Ex} (h1 : GoodE EC C k e1) : GoodE EC C k (.not e1) := fun X W x a c h => by
  unfold chE at h
  split at h
  · simp only [Bool.and_eq_true, decide_eq_true_eq] at h
    obtain ⟨rfl, q1⟩ := h
    obtain ⟨_, v, t⟩ := h1 X W x _ c q1
    exact ⟨rfl, E_not t v, P_not t⟩
  · cases h
theorem s_ife {e1 e2 e3 : Ex} (h1 : GoodE EC C k e1) (h2 : GoodE EC C k e2) (h3 : GoodE EC C k e3) : GoodE EC C k (.ife e1 e2 e3) := fun X W x a c h => by
  unfold chE at h
  split at h
  · simp only [Bool.and_eq_true] at h
    obtain ⟨⟨q1, q2⟩, q3⟩ := h
    obtain ⟨_, v2, t2⟩ := h2 X W x _ c q2
    obtain ⟨_, v3, t3⟩ := h3 X W x _ c q3
    have t1 := (h1 X W x _ c q1).2.2
    exact ⟨rfl, E_ife t1 v2 v3, P_ife t1 t2 t3 fun _ _ _ a b c => pt_ife a b c⟩
  · cases h
theorem s_and {es : Exs} (h1 : GoodEs EC C k es) : GoodE EC C k (.and es) := fun X W x a c h => by
  unfold chE at h
  split at h
  · simp only [Bool.and_eq_true, decide_eq_true_eq] at h
    obtain ⟨rfl, q⟩ := h
    obtain ⟨v, t⟩ := (h1 X W x _ c q).an _ _ (by assumption) rfl
    refine ⟨rfl, E_ofB v fun σ H Q w => w, ?_⟩
    rw [evE, testB]
    exact t.pt
  · cases h
theorem s_or {es : Exs} (h1 : GoodEs EC C k es) : GoodE EC C k (.or es) := fun X W x a c h => by
  unfold chE at h
  split at h
  · simp only [Bool.and_eq_true, decide_eq_true_eq] at h
    obtain ⟨rfl, q⟩ := h
    obtain ⟨v, t⟩ := (h1 X W x _ c q).or _ _ (by assumption) rfl
    refine ⟨rfl, E_ofB v fun σ H Q w => w, ?_⟩
    rw [evE, testB]
    exact t.pt
  · cases h
theorem s_orv {e1 e2 : Ex} (h1 : GoodE EC C k e1) (h2 : GoodE EC C k e2) : GoodE EC C k (.orv e1 e2) := fun X W x a c h => by
  unfold chE at h
  split at h
  · rw [Bool.and_eq_true, Bool.and_eq_true] at h
    obtain ⟨p2, v2, t2⟩ := h2 X W x _ c h.2
    obtain ⟨p1, v1, _⟩ := h1 X W x _ c h.1.2
    exact ⟨rfl, E_orv v1 v2, P_orv h.1.1 v1 t2⟩
  · cases h
theorem s_dix {e1 e2 : Ex} (h1 : GoodE EC C k e1) (h2 : GoodE EC C k e2) : GoodE EC C k (.dix e1 e2) := fun X W x a c h => by
  unfold chE at h
  split at h
  · rw [Bool.and_eq_true] at h
    obtain ⟨p2, v2, _⟩ := h2 X W x _ c h.2
    have z := E_dix (EC := EC) (W := W) (pos := by assumption) (Nat.lt_of_le_of_lt (by omega) c.un) (opnd_ok h1 c h.1) v2 (fun o i => plain_ix p2 o i)
    exact ⟨rfl, z, pt_plain z fun _ => rfl⟩
  · cases h
theorem s_dic {ks vs : Exs} (h1 : GoodEs EC C k vs) : GoodE EC C k (.dic ks vs) := fun X W x a c h => by
  unfold chE at h
  split at h
  · rename_i keys l p
    rw [Bool.and_eq_true, Bool.and_eq_true] at h
    obtain ⟨⟨q1, q2⟩, q3⟩ := h
    cases e : keysE ks with
    | none => rw [e] at q1; cases q1
    | some ys =>
      rw [e] at q1
      have z := E_dic (pos := p) q1 (h1 X W x _ c q2).pw (of_decide_eq_true q3)
      have e2 : evE C (.dic ks vs) = noErr ((evDs C vs).bind fun ds => lift (dicD ys ds)) := by
        rw [evE, e]
      rw [e2]
      exact ⟨rfl, z, pt_plain z fun _ => rfl⟩
  · cases h
theorem s_ix {e1 e2 : Ex} (h1 : GoodE EC C k e1) (h2 : GoodE EC C k e2) : GoodE EC C k (.ix e1 e2) := fun X W x a c h => by
  unfold chE at h
  split at h
  · rw [Bool.and_eq_true] at h
    obtain ⟨p2, v2, _⟩ := h2 X W x _ c h.2
    have z := E_ix (EC := EC) (W := W) (pos := by assumption) (opnd_ok h1 c h.1) v2 (plain_ix p2)
    exact ⟨rfl, z, pt_plain z fun _ => rfl⟩
  · cases h
theorem part_ok {e : Ex} (h : GoodE EC C k e) (c : Ctx EC C k X W x) {o : Option Expr} (q : (match o with
      | none => isNon e
      | some e1 => !isNon e && chE x e e1) = true) : PO X o (tOi X.K EC W (partM e (evE C e))) := by
  cases o with
  | none => exact O_none q
  | some a =>
    have q : (!isNon e && chE x e a) = true := q
    rw [Bool.and_eq_true] at q
    exact O_some (by simpa using q.1) (h X W x a c q.2).2.1
theorem s_sl {e1 e2 e3 : Ex} (h1 : GoodE EC C k e1) (h2 : GoodE EC C k e2) (h3 : GoodE EC C k e3) : GoodE EC C k (.sl e1 e2 e3) := fun X W x a c h => by
  unfold chE at h
  split at h
  · rename_i l l1 l2 l3 p1 p2
    rw [Bool.and_eq_true, Bool.and_eq_true, Bool.and_eq_true] at h
    obtain ⟨⟨⟨n3, q1⟩, q2⟩, q3⟩ := h
    cases l3 with
    | some z => cases n3
    | none =>
      have z := E_sl (EC := EC) (W := W) (pos := p2) (p2 := p1) (opnd_ok h1 c q1) (part_ok h2 c (o := l1) (by cases l1 <;> exact q2)) (part_ok h3 c (o := l2) (by cases l2 <;> exact q3))
      exact ⟨rfl, z, pt_plain z fun _ => rfl⟩
  · cases h
theorem s_tup {es : Exs} (h1 : GoodEs EC C k es) : GoodE EC C k (.tup es) := fun X W x a c h => by
  unfold chE at h
  split at h
  · have z := E_tup (EC := EC) (W := W) (pos := by assumption) (k1 := by assumption) (h1 X W x _ c h).ds
    exact ⟨rfl, z, pt_plain z fun _ => rfl⟩
  · cases h
theorem s_lst {es : Exs} (h1 : GoodEs EC C k es) : GoodE EC C k (.lst es) := fun X W x a c h => by
  unfold chE at h
  split at h
  · have z := E_lst (EC := EC) (W := W) (pos := by assumption) (h1 X W x _ c h).ds
    exact ⟨rfl, z, pt_plain z fun _ => rfl⟩
  · cases h
theorem kw_nil {kw : List Keyword} (h : kw.isEmpty = true) : kw = [] := by
  cases kw with
  | nil => rfl
  | cons a b => cases h
end
end Hg
set_option Elab.async false
set_option linter.all false
set_option maxRecDepth 100000
set_option maxHeartbeats 400000
/-! try: .. except x as n: y = n, and what follows while the error is known. -/
namespace Hg
open PySem PySem.Spec PyProof.Rows L2 RZ RT
section
variable {X : Cx} {pins : List (Addr × Obj)} {σ : L2.St} {H : Hp} {s : Shared}
theorem Inv.keepPin {a : Addr} {pn : List (Addr × Obj)} (I : L2.Inv (X.suite a pn) [] σ H s) (ok : X.Ok) : L2.Inv (X.tr pn X.xe) [] σ H s :=
  ⟨ok.toTry _ _, I.os, I.bare, I.base, I.loc, I.cell, I.free, I.freeC, I.pin, I.hok, I.len⟩
theorem Inv.dropPin {q : Addr × Obj} (I : L2.Inv (X.tr (q :: (X.pn ++ pins)) X.xe) [] σ H s) (ok : X.Ok) : L2.Inv X pins σ H s :=
  ⟨ok, I.os, I.bare, I.base, I.loc, I.cell, I.free, I.freeC, fun p hp => I.pin p (by rw [List.append_nil]; exact List.mem_cons_of_mem _ hp), I.hok, I.len⟩
/-- what is wished of an error of the body -/
def wE (K : PySem.W.Frag) (c : Value) (n i j : Nat) (t1 : Addr → Value → Option Addr → TS) (Wout : WX) (D : Ends) : WX := fun cls d σ H => σ.length = n →
  ∃ b, PySem.W.exmOne K cls c = some b ∧ (b = true → ∀ a, H a = none → t1 a cls d D (((σ.set i (some (.ref a))).set j (some (.ref a))).set i none) H) ∧ (b = false → Wout cls d σ H)
theorem pss_tryE {x n y : Str} {c : Value} {i j : Nat} {body rest : List Stmt} {np yp np2 ap pp pos : Pos} {tb : WX → TS} {t0 : TS} {t1 : Addr → Value → Option Addr → TS} {Wout : WX}
    (hs : X.stack = X.env :: X.outer) (hf : X.env.frame = some X.env.locals) (hN : X.N.Nodup) (hi : X.N[i]? = some n) (hln : X.env.kindOf n = some .local) (hj : X.N[j]? = some y) (hly : Loc X.env.scope y) (hfy : X.fn y = true)
    (hdn : (n == ("__debug__" : Str)) = false) (hdc : (n == ("__classdict__" : Str)) = false) (hc : Names X x c) (tk : Takes X Wout)
    (hb : ∀ (W : WX) (pn : List (Addr × Obj)) (xe : Value → Shared → Prop), Takes (X.tr pn xe) W → PassesOwn (model X.prog X.w) X.A X.env xe → PSs (X.tr pn xe) body (tb W))
    (h0 : PSs X rest t0) (h1 : ∀ (a : Addr) (oe : Obj) (cls : Value) (d : Option Addr) (pn : List (Addr × Obj)), Zc cls d oe → (∃ vs, oe.data = .fields vs) → PSs (X.tr ((a, oe) :: pn) X.xe) rest (t1 a cls d)) :
    PSs X (.Try body [.ExceptHandler (some (.Name x np)) (some n) [.Assign [.Name y yp] (.Name n np2) ap] pp] [] [] pos :: rest) (fun D σ H => tb (wE X.K c X.N.length i j t1 Wout D) { D with nx := t0 D } σ H) := by
  refine ⟨fun pins s σ H D I h => wpAny_execs_cons ?_⟩
  have ok := I.ok
  have hfr : X.A.frames = some (X.env :: X.outer) := by rw [ok.frames, hs]
  -- what is wished behind the statement
  let R : Flow → Shared → Prop := fun f s' => match f with
    | .next => wpAny (model X.prog X.w) X.A (execs rest X.env) (SP X pins D) X.xe s'
    | f => SP X pins D f s'
  refine wpAny_mono (Q := R) (wpAny_Try_except ?_) (fun f s1 q => ?_) fun _ _ z => z
  case refine_2 => cases f <;> exact q
  refine wpAny_mono ((hb (wE X.K c X.N.length i j t1 Wout D) (X.pn ++ pins) (fun e s2 => wpAny (model X.prog X.w) X.A (noteFrame e X.env) (fun _ s3 => wpAny (model X.prog X.w) X.A (setFlight e none) (fun _ s4 =>
    wpAny (model X.prog X.w) X.A (handleBy e X.env [.ExceptHandler (some (.Name x np)) (some n) [.Assign [.Name y yp] (.Name n np2) ap] pp]) R X.xe s4) X.xe s3) X.xe s2) (fun u s' xx => ?_) PassesOwn.looking).run [] s σ H _ (I.toTry _) h) (fun f s1 hsp => ?_) (fun e s1 he => he)
  · obtain ⟨a, B, sI, pins', σ', H', cls, d, rfl, J', nb, up, sky, na, os, ag, wE1⟩ := xx
    have J : L2.Inv X pins σ' H' sI := J'.ofTry ok
    obtain ⟨b, hb1, hyes, hno⟩ := wE1 J.len
    have sky2 : Sky B (X.env :: X.outer) a (Zc cls d) X.env.locals s'.heap := by rw [← hs]; exact sky
    show wpAny (model X.prog X.w) X.A (noteFrame (.ref a) X.env) _ _ _
    refine Sky.land Zc.steady hfr hf sky2 fun g3 fl3 up3 => ?_
    have J3 : L2.Inv X pins σ' H' { s' with heap := g3 } := J.landed nb fl3.1 (up.trans up3) os ag
    obtain ⟨o3, w3, he3, hz3, hd3⟩ := fl3.there
    have nfr : a ∉ frs (X.env :: X.outer) := fun hm => by
      obtain ⟨_, o', e', hnf⟩ := fl3.2.2.1.mem hm
      rw [he3] at e'
      cases e'
      exact hnf _ hd3
    have nL : a ≠ X.env.locals := fun z => nfr (List.mem_filterMap.mpr ⟨X.env, List.mem_cons_self, by rw [hf, z]⟩)
    have nF : a ∉ X.fs := fun hm => by
      obtain ⟨e, he, q⟩ := List.mem_filterMap.mp hm
      exact nfr (List.mem_filterMap.mpr ⟨e, List.mem_cons_of_mem _ he, q⟩)
    have S3 := J3.suite he3 hd3 na nL nF
    refine wpAny_handleBy_cons (codeAny_handlers_test ?_) (by intro q; cases q)
    have LT : PySem.W.Looks (model X.prog X.w) g3 (typeOf (.ref a)) cls := fun A Q E s k q => wpAny_typeOf_ref (k _ _ he3) (by rw [hz3.1]; exact q)
    have LM := PySem.W.exm_one (M := model X.prog X.w) (J3.kIn) LT hb1
    have ask : ∀ {Q : Value → Shared → Prop} {E : Value → Shared → Prop}, Q c { s' with heap := g3 } → wpAny (model X.prog X.w) (X.A.mark (some (.ref a))) (eval (.Name x np) X.env) Q E { s' with heap := g3 } := fun {Q E} q => by
      obtain ⟨hg, hdbg, hm | ⟨hm, hv, hnn⟩⟩ := hc
      · exact ld_glob (X := X.suite a ((a, o3) :: (X.pn ++ pins))) S3 hg hm q hdbg
      · exact ld_blt (X := X.suite a ((a, o3) :: (X.pn ++ pins))) S3 hg hm hv q hnn hdbg
    refine ask (LM.here ?_)
    cases b with
    | true =>
      refine codeAny_handlers_suite_as ?_
      refine HandSPX.lands_againZ fl3 fun g4 fl4 up4 => ?_
      have J4 : L2.Inv X pins σ' H' { s' with heap := g4 } := J.landed nb fl4.1 ((up.trans up3).trans up4) os ag
      obtain ⟨o4, w4, he4, hz4, hd4⟩ := fl4.there
      have S4 := J4.suite he4 hd4 na nL nF
      refine store_ok (X := X.suite a ((a, o4) :: (X.pn ++ pins))) (v := .ref a) S4 hN hi (.inl hln) rfl (fun s5 S5 => ?_) (.inr hln)
      have hlt : i < σ'.length := by rw [J.len]; exact (List.getElem?_eq_some_iff.mp hi).1
      have st : PS (X.suite a ((a, o4) :: (X.pn ++ pins))) (.Assign [.Name y yp] (.Name n np2) ap) (tAsg (tVar i) (gName j)) := ps_set hN hj hly (pe_var hi (.inl hln) hdn hdc) rfl (.inl hfy)
      refine wpAny_mono ((pss_one st).run [] s5 _ H' { nx := fun σ6 H6 => σ6 = (σ'.set i (some (.ref a))).set j (some (.ref a)) ∧ H6 = H', rt := fun _ _ => False } S5 ⟨.ref a, List.getElem?_set_self hlt, rfl, rfl⟩) (fun f s6 hsp => ?_) fun _ _ z => False.elim z
      cases f with
      | next =>
        obtain ⟨σ6, H6, S6, rfl, rfl⟩ := hsp
        refine gone_ok (X := X.tr ((a, o4) :: (X.pn ++ pins)) X.xe) (Inv.keepPin S6 ok) hN hi hln fun s7 J7 => ?_
        refine wpAny_mono ((h1 a o4 cls d (X.pn ++ pins) hz4 ⟨_, hd4⟩).run [] s7 _ H6 D J7 (hyes rfl a na)) (fun f s8 q8 => ?_) fun _ _ z => z
        cases f with
        | next =>
          obtain ⟨σ9, H9, J9, q9⟩ := q8
          exact ⟨σ9, H9, Inv.dropPin J9 ok, q9⟩
        | brk =>
          obtain ⟨σ9, H9, J9, q9⟩ := q8
          exact ⟨σ9, H9, Inv.dropPin J9 ok, q9⟩
        | cont =>
          obtain ⟨σ9, H9, J9, q9⟩ := q8
          exact ⟨σ9, H9, Inv.dropPin J9 ok, q9⟩
        | ret u =>
          obtain ⟨v9, σ9, H9, J9, r9, q9⟩ := q8
          exact ⟨v9, σ9, H9, Inv.dropPin J9 ok, r9, q9⟩
      | brk =>
        obtain ⟨_, _, _, q⟩ := hsp
        exact (show False from q).elim
      | cont =>
        obtain ⟨_, _, _, q⟩ := hsp
        exact (show False from q).elim
      | ret u =>
        obtain ⟨_, _, _, _, _, q⟩ := hsp
        exact (show False from q).elim
    | false =>
      show wpAny _ X.A (handleBy (.ref a) X.env []) _ _ _
      refine wpAny_handleBy_nil ?_
      obtain ⟨k1, k2, k3, oe, vs, T, oT, ts', he, hz, hd, h1', hr⟩ := id fl3
      unfold PySem.passOn
      refine wpAny_bind (wpAny_field he hd h1' ?_)
      rw [if_neg (show ¬ ((Value.ref T == Value.none) = true) from by simp)]
      have fin : wpAny (model X.prog X.w) X.A (setFlight (.ref a) X.env.frame) (fun _ s4 => wpAny (model X.prog X.w) X.A (throw (.ref a) : Sem Flow) R X.xe s4) X.xe { s' with heap := g3 } := by
        rw [hf]
        refine HandSPX.setFlight_upZ fl3 fun g4 hh4 up4 => wpAny_throw (tk _ _ ?_)
        exact ⟨a, B, sI, pins, σ', H', cls, d, rfl, J, nb, (up.trans up3).trans up4, .inr (.inr (by rw [hs]; exact hh4)), na, os, ag, hno rfl⟩
      first
        | exact wpAny_bind (wpAny_pure (wpAny_bind fin))
        | exact wpAny_bind fin
  · cases f with
    | next =>
      obtain ⟨σ', H', J', q⟩ := hsp
      exact wpAny_execs_nil (h0.run pins s1 σ' H' D (J'.ofTry ok) q)
    | brk =>
      obtain ⟨σ', H', J', q⟩ := hsp
      exact ⟨σ', H', J'.ofTry ok, q⟩
    | cont =>
      obtain ⟨σ', H', J', q⟩ := hsp
      exact ⟨σ', H', J'.ofTry ok, q⟩
    | ret u =>
      obtain ⟨v, σ', H', J', r, q⟩ := hsp
      exact ⟨v, σ', H', J'.ofTry ok, r, q⟩
end
/-- isinstance(e, c) while the error e is known -/
theorem call_isK {X : Cx} {a D : Addr} {oe : Obj} (C : ExcC X.K D) (hz : Zc (.ref D) none oe) (hf : ∃ vs, oe.data = .fields vs) (hp : (a, oe) ∈ X.pn) : CallR X (.builtin "isinstance") (rIsE X.K D a) := by
  intro pins s σ H xs us Q I r h
  obtain ⟨c, cv, b, rfl, hcv, e, q⟩ := h
  cases r with
  | cons rx rr =>
    cases rr with
    | cons rt rr =>
      cases rr
      cases rx
      have ec := hcv _ rt
      subst ec
      have hget := (I.pin (a, oe) (List.mem_append_left _ hp)).1
      obtain ⟨vs, hv⟩ := hf
      have J : PySem.W.InstAt s.heap a oe D none := by
        obtain ⟨oc, od, oda, osl⟩ := oe
        obtain ⟨z1, z2⟩ := hz
        dsimp only at z1 z2 hv
        subst z1 z2 hv
        exact ⟨hget, rfl, rfl, trivial⟩
      exact PySem.W.kia_one (PySem.W.handS_kitx_exc C.hg C.hk C.hs C.hd C.ha C.hn C.ht C.hm) I.kIn J e (fun z => nomatch z) fun tk => ⟨.bl b, H, I.kept (t' := tk) fun _ _ z => z, rfl, q⟩
end Hg
set_option Elab.async false
set_option linter.all false
set_option maxRecDepth 100000
set_option maxHeartbeats 400000
/-! A lambda handed to a teller of refusals. -/
namespace Hg
open PySem PySem.Spec PyProof.Rows L2 RZ RT
section
variable {K : PySem.W.Frag} {F N : NS} {s s1 s' : S} {σ : L2.St} {H H1 H' : Hp}
theorem StOk.extN (k : StOk K F s σ H) (e : LamX.ExtN H H') (t : Tb K H') : StOk K F s σ H' ∧ Fr F (Nn F s σ) H (Nn F s σ) H' := by
  have f : Fr F (Nn F s σ) H (Nn F s σ) H' := ⟨fun b hb => by
    obtain ⟨u, q, n⟩ := k.dom b hb
    rw [q]
    exact e b u q n.1, fun b o n t q => ⟨e b o q t, n⟩⟩
  refine ⟨k.keep f (fun b hb => ?_) t, f⟩
  obtain ⟨u, q, n⟩ := k.own' hb
  rw [q]
  exact e b u q n.1
/-- a new object in what has grown, kept for itself -/
theorem StOk.extOw (k : StOk K F s σ H) (e : LamX.ExtN H H') (t' : Tb K H') {p : Addr} {xs : List V} {ds : List D} (hp : Np H p) (h : H' p = some (.lst xs)) (r : RpA K (fun _ => none) xs ds) : AftW K F s σ H (.lst ds) s p H' := by
  obtain ⟨k1, f1⟩ := k.extN e t'
  have np : ¬ Nn F s σ p := fun z => by
    obtain ⟨u, e1, n⟩ := k.nn' z
    exact hp u n.1 e1
  have f : Fr F (Nn F s σ) H (Nn (Ad F p) s σ) H' := by
    refine ⟨f1.keep, fun b o n t q => ⟨e b o q t, fun z => ?_⟩⟩
    rw [nn_ad] at z
    rcases z with z | z
    · exact n z
    · exact hp o t (z ▸ q)
  have l : Le (fun _ => none) (Hid (Nn (Ad F p) s σ) H') := fun b o _ z => nomatch z
  have l0 : Le (Hid (Nn F s σ) H) (Hid (Nn (Ad F p) s σ) H') := f.le
  refine ⟨⟨k.len, fun i d z => ?_, fun i u z => ?_, k.inj, fun b hb z => ?_, fun b z => ?_, k1.tb⟩, f, fun z => np (.inl z), xs, h, RpA.mono l _ _ r⟩
  · obtain ⟨v, e1, r⟩ := k.sh i d z
    exact ⟨v, e1, Rp.mono l0 _ _ r⟩
  · obtain ⟨q, e1, r⟩ := k.ow i u z
    obtain ⟨w, e2, nw⟩ := k.own' ⟨i, u, z, e1⟩
    exact ⟨q, e1, r.mono (by rw [e2]; exact e _ _ e2 nw.1) l0⟩
  · rcases z with z | z
    · exact k.ap b hb z
    · exact np (.inr (z ▸ hb))
  · rcases z with z | z
    · exact k1.dom b z
    · exact ⟨_, z ▸ h, .lst⟩
end
section
variable {EC : Nat → Addr} {C : Cal} {k : Nat} {X : Cx} {W : WX} {x : Sx} {a e : Expr} {es : List Expr} {n : Str} {i : Nat} {p pos : Pos}
theorem pe_callS0 {f : Addr} {fd : FuncData} {ps : List Str} {sp : Sp} {E : L2.St → XK} (F : FnOk X.prog X.w X.K X.mg X.base (L2.CX X.prog X.w) k f fd ps sp) (hr : Room k X.A) (hg : Gl X n) (hm : X.mg n = some (.ref f)) (hk : PySem.W.keepIn X.K (.ref f) = true) (hb : Binds X.K fd ps []) (hx : ∀ σ, PassesAt (L2.CX X.prog X.w) X σ (E σ))
    (hdb : (n == ("__debug__" : Str)) = false) : PE X (.Call (.Name n p) [] [] pos) (fun σ H Q => sp [] H Q (E σ)) := by
  refine ⟨fun pins s σ H Q I h => ?_⟩
  refine wpAny_Call_Name_kw (ld_glob I hg hm ?_ hdb)
  exact PySem.W.callWith_K0 I.kIn hk (run_fnS (us := []) F hr hb (hx σ) I .nil h)
theorem evAs_nil {bs : List Bool} {s : S} : evAs C bs .nil s = .bad ∨ evAs C bs .nil s = .ok [] s := by
  cases bs with
  | nil => exact .inr (by rw [evAs] <;> rfl)
  | cons b bs => exact .inl rfl
/-- from what is wished of the call to what is wished of the lambda -/
theorem rfd_use {ks : List Nat} {m : M Sl} {σ : L2.St} {H : Hp} {Q : VK} (h : tE X.K EC W (rfdM ks m) σ H Q) : LamX.tLam (TbL X.K) (TRef X.K EC ks) (fun E => tE X.K EC (fun cls d _ H' => E cls d H') m) σ H Q := by
  obtain ⟨F, s, k, w⟩ := h
  refine ⟨k.tb, fun H1 eN T1 => ?_⟩
  obtain ⟨k1, f1⟩ := k.extN eN T1
  refine ⟨F, s, k1, ?_⟩
  unfold rfdM frz M.bind at w
  cases q : m s with
  | bad => rw [q] at w; exact w.elim
  | ok r s' =>
    rw [q] at w
    have w : Wp X.K EC W F s σ H (match (lift r.data s' : R D) with
      | .bad => .bad
      | .ok _ s' => .ok (.sh .none) s'
      | .err e s' => match ks[e.cls]? with
        | some k => .ok (.ow (.lst [.int (k : Int)])) s'
        | none => .bad) fun r s' => ∀ v H', AftS X.K F s σ H r s' v H' → Q v H' := w
    intro v H' av
    cases hd : r.data with
    | none => rw [hd] at w; exact w.elim
    | some d =>
      rw [hd] at w
      have w : ∀ v H', AftS X.K F s σ H (.sh .none) s' v H' → Q v H' := w
      have ad := av.data hd
      refine ⟨ad.ok.tb, fun H'' e2 t2 => ?_⟩
      obtain ⟨k2, f2⟩ := ad.ok.extN e2 t2
      exact w .non H'' ⟨k2, (f1.trans ad.fr).trans f2, .non⟩
  | err er s' =>
    rw [q] at w
    have w : Wp X.K EC W F s σ H (match ks[er.cls]? with
        | some k => .ok (.ow (.lst [.int (k : Int)])) s'
        | none => .bad) fun r s' => ∀ v H', AftS X.K F s σ H r s' v H' → Q v H' := w
    intro H' cls d kk ff er1
    cases hk : ks[er.cls]? with
    | none => rw [hk] at w; exact w.elim
    | some kn =>
      rw [hk] at w
      have w : ∀ v H', AftS X.K F s σ H (.ow (.lst [.int (kn : Int)])) s' v H' → Q v H' := w
      refine ⟨er.cls, kn, er1.1, er1.2, hk, kk.tb, fun H'' p e2 t2 hp h2 => ?_⟩
      exact w _ _ ⟨p, rfl, (kk.extOw e2 t2 hp h2 (.cons (.int _) .nil)).back (f1.trans ff)⟩
theorem lam_ctx {scope : Scope} {A : Around} {outer : List Env} {s : Shared} {H : Hp} {E : XK} {f c' : Addr} {j : Nat} (c : Ctx EC C k X W x) (L : LamX.LamS X.env.scope scope) (hr : Room j (A.deeper (LamX.lamEnv X scope s.heap.objs.size f c'))) :
    Ctx EC C j (LamX.lamCx X A outer s H E scope f c') (fun cls d _ H' => E cls d H') (x.lam scope) := by
  refine ⟨rfl, c.nm, L.kind, c.nd, rfl, takes_of rfl rfl rfl rfl, hr, ?_, c.free, fun f n z => (nomatch z), c.con, fun n z => (nomatch z), (fun z => nomatch z), (fun z => nomatch z), (fun z => nomatch z), c.tbl⟩
  have := hr.un
  show (A.deeper _).units + 65 < cLine
  omega
theorem noPar_of {pr : Arguments} (h : noPar pr = true) : pr = ⟨[], [], none, [], [], none, []⟩ := by
  unfold noPar at h
  split at h
  · rfl
  · cases h
theorem s_rfd {r g : Nat} {xs : Exs} {ks : List Nat} (ih : ∀ j, GoodEs EC C j xs) : GoodE EC C k (.rfd r g xs ks) := fun X W x a c h => by
  unfold chE at h
  split at h
  · rename_i n p1 params m p2 l kw2 p3 scope p4 kw p5
    simp only [Bool.and_eq_true, decide_eq_true_eq] at h
    obtain ⟨⟨⟨⟨⟨⟨⟨⟨⟨⟨n1, n2⟩, n3⟩, n4⟩, n5⟩, n6⟩, n7⟩, n8⟩, n9⟩, n10⟩, q⟩ := h
    cases kw_nil n1
    cases kw_nil n8
    cases noPar_of n6
    have z : PE X (.Call (.Name n p1) [.Lambda ⟨[], [], none, [], [], none, []⟩ (.Call (.Name m p2) l [] p3) scope p4] [] p5) (tE X.K EC W (evE C (.rfd r g xs ks))) := by
      cases hlw : C.lw with
      | none =>
        have e : evE C (.rfd r g xs ks) = bad := by
          rw [evE, hlw]
        rw [e]
        exact ⟨fun pins s σ H Q I ⟨F, t, k, w⟩ => w.elim⟩
      | some run =>
        have e : evE C (.rfd r g xs ks) = rfdM ks ((evAs C (C.io g) xs).bind fun as => callM (C.wr run) g as) := by
          rw [evE, hlw]
          rfl
        rw [e]
        obtain ⟨a, gg, pg, bg, sg, dV, kV, doc, pm, cdv, ct, oc, an, od, osl, Ng, R⟩ := c.rf n2 run hlw r ks n n5 n3
        obtain ⟨cc, t, TB, hcode, hm, hu⟩ := c.lam n2
        obtain ⟨j, rfl, hF⟩ := c.lw n2 run hlw
        obtain ⟨g1, g2, _⟩ := c.gl n4
        have L : LamX.LamS X.env.scope scope := LamX.lamS_by (by rw [c.sc]; exact n7)
        refine peW (LamX.pe_lamcall (T := TbL X.K) (TT := TRef X.K EC ks) (t := fun E => tE X.K EC (fun cls d _ H' => E cls d H') ((evAs C (C.io g) xs).bind fun as => callM (C.wr run) g as)) g1 R.hm R.hk R.lk R.hc R.hb R.hS R.hN R.hv R.hG TB hcode hm hu c.room L rfl (fun _ _ _ _ _ => rfl) (fun A outer s H E f c' hr => ?_) g2 R.hd R.hcd) fun σ H Q w => rfd_use w
        have cl := lam_ctx (outer := outer) (H := H) (E := E) (f := f) (c' := c') c L hr
        obtain ⟨gl1, gl2, _⟩ := cl.gl n10
        have F0 := hF g m n9
        have F1 : FnAt (LamX.lamCx X A outer s H E scope f c') EC (C.wr run) j g m := F0
        have Es := ih j (LamX.lamCx X A outer s H E scope f c') _ _ l cl q
        cases l with
        | nil =>
          have e : xs = .nil := by
            cases xs with
            | nil => rfl
            | cons a b => unfold chEs at q; cases q
          subst e
          obtain ⟨ad, fd, ps, hm', hk', hb', _, F2⟩ := F1
          refine peW (pe_callS0 F2 hr gl1 hm' hk' hb' (passAt cl.tk) gl2) fun σ H Q ⟨Fs, s, kk, w⟩ => ?_
          have w := w.len
          rcases evAs_nil (C := C) (bs := C.io g) (s := s) with q | q
          · rw [q] at w
            exact w.elim
          · rw [q] at w
            exact call_use (C := C.wr run) (evAs_len (C := C) q) ⟨kk, Fr.refl, .nil⟩ w.2
        | cons b bs =>
          have pl := Es.pl
          rw [List.all_cons, Bool.and_eq_true] at pl
          exact E_callG cl.tk hr gl1 gl2 F1 (Es.as (C.io g)) (fun _ _ _ h => evAs_len h) pl.1 pl.2
    exact ⟨rfl, z, pt_plain z fun _ => rfl⟩
  · cases h
end
end Hg
set_option Elab.async false
set_option linter.all false
set_option maxRecDepth 100000
set_option maxHeartbeats 400000
/-! Statements: readings and rules. -/
namespace Hg
open PySem PySem.Spec PyProof.Rows L2 RZ RT
structure AftN (K : PySem.W.Frag) (P : List Nat) (F : NS) (s : S) (σ : L2.St) (H : Hp) (s' : S) (σ' : L2.St) (H' : Hp) : Prop where
  ok : StOk K F s' σ' H'
  fr : Fr F (Nn F s σ) H (Nn F s' σ') H'
  len : σ'.length = σ.length
  pr : ∀ i ∈ P, σ'[i]? = σ[i]?
def WpS {α : Type} (K : PySem.W.Frag) (EC : Nat → Addr) (W : WX) (P : List Nat) (F : NS) (s : S) (σ : L2.St) (H : Hp) (r : R α) (Φ : α → S → Prop) : Prop := match r with
  | .bad => False
  | .ok a s' => Φ a s'
  | .err e s' => ∀ (σ' : L2.St) (H' : Hp) (cls : Value) (d : Option Addr), AftN K P F s σ H s' σ' H' → ErR EC e cls d → W cls d σ' H'
def AftF (K : PySem.W.Frag) (P : List Nat) (F : NS) (s : S) (σ : L2.St) (H : Hp) (D : Ends) (f : Fl) (s' : S) : Prop := match f with
  | .nx => ∀ σ' H', AftN K P F s σ H s' σ' H' → D.nx σ' H'
  | .rt r => ∀ σ' H1 s1 v H', AftN K P F s σ H s1 σ' H1 → AftS K F s1 σ' H1 r s' v H' → D.rt v H'
def tS (K : PySem.W.Frag) (EC : Nat → Addr) (W : WX) (P : List Nat) (m : M Fl) : TS := fun D σ H => ∃ F s, StOk K F s σ H ∧ WpS K EC W P F s σ H (m s) (AftF K P F s σ H D)
section
variable {K : PySem.W.Frag} {EC : Nat → Addr} {W : WX} {P : List Nat} {F : NS} {s s1 s2 s' : S} {σ σ1 σ2 σ' : L2.St} {H H1 H2 H' : Hp} {α β : Type}
theorem AftN.refl (k : StOk K F s σ H) : AftN K P F s σ H s σ H := ⟨k, Fr.refl, rfl, fun _ _ => rfl⟩
theorem AftN.trans (a : AftN K P F s σ H s1 σ1 H1) (b : AftN K P F s1 σ1 H1 s2 σ2 H2) : AftN K P F s σ H s2 σ2 H2 :=
  ⟨b.ok, a.fr.trans b.fr, b.len.trans a.len, fun i h => (b.pr i h).trans (a.pr i h)⟩
theorem AftN.of (k : StOk K F s' σ H') (f : Fr F (Nn F s σ) H (Nn F s' σ) H') : AftN K P F s σ H s' σ H' := ⟨k, f, rfl, fun _ _ => rfl⟩
theorem WpS.toE {r : R α} {Φ : α → S → Prop} (h : WpS K EC W P F s σ H r Φ) : Wp K EC W F s σ H r Φ := by
  cases r with
  | bad => exact h
  | ok a s' => exact h
  | err e s' => exact fun H' cls d k f x => h σ H' cls d (.of k f) x
theorem WpS.mono {r : R α} {Φ Φ' : α → S → Prop} (h : WpS K EC W P F s σ H r Φ) (k : ∀ a s', Φ a s' → Φ' a s') : WpS K EC W P F s σ H r Φ' := by
  cases r with
  | bad => exact h
  | ok a s' => exact k a s' h
  | err e s' => exact h
theorem WpS.bind {m : M α} {f : α → M β} {Φ : β → S → Prop} (h : WpS K EC W P F s σ H ((m.bind f) s1) Φ) : WpS K EC W P F s σ H (m s1) fun a s2 => WpS K EC W P F s σ H (f a s2) Φ := by
  have e : (m.bind f) s1 = (m s1).bind fun a s' => f a s' := rfl
  rw [e] at h
  cases q : m s1 with
  | bad => rw [q] at h; exact h
  | ok a s' => rw [q] at h; exact h
  | err e s' => rw [q] at h; exact h
theorem WpS.on {r : R α} {Φ : α → S → Prop} (f : AftN K P F s σ H s1 σ1 H1) (h : WpS K EC W P F s σ H r Φ) : WpS K EC W P F s1 σ1 H1 r Φ := by
  cases r with
  | bad => exact h
  | ok a s' => exact h
  | err e s' => exact fun σ' H' cls d a x => h σ' H' cls d (f.trans a) x
theorem AftF.on {D : Ends} {f : Fl} (a : AftN K P F s σ H s1 σ1 H1) (h : AftF K P F s σ H D f s') : AftF K P F s1 σ1 H1 D f s' := by
  cases f with
  | nx => exact fun σ' H' b => h σ' H' (a.trans b)
  | rt r => exact fun σ' H1 s1 v H' b c => h σ' H1 s1 v H' (a.trans b) c
theorem WpS.lift {o : Option α} {Φ : α → S → Prop} (w : WpS K EC W P F s σ H (lift o s1) Φ) : ∃ a, o = some a ∧ Φ a s1 := by
  cases o with
  | none => exact False.elim w
  | some a => exact ⟨a, rfl, w⟩
/-- behind a store of what was made -/
theorem StOk.putS {r : Sl} {v : V} (k : StOk K F s σ H) (a : AftS K F s σ H r s1 v H1) {i : Nat} (hi : i < s1.length) (hp : i ∉ P) : AftN K P F s σ H (s1.set i r) (σ.set i (some v)) H1 := by
  have pr : ∀ j ∈ P, (σ.set i (some v))[j]? = σ[j]? := fun j hj => List.getElem?_set_ne fun (z : i = j) => hp (by rw [z]; exact hj)
  cases r with
  | un => exact a.elim
  | sh d =>
    obtain ⟨k2, f2⟩ := (AftD.ok a).put hi (AftD.rp a)
    exact ⟨k2, (AftD.fr a).trans f2, List.length_set, pr⟩
  | ow o =>
    obtain ⟨p, rfl, q⟩ := a
    obtain ⟨k1, f1⟩ := q.ok.sub (s' := s1.set i .un) (σ' := σ.set i (some (.ref p))) (by rw [List.length_set, List.length_set]; exact q.ok.len) fun j x e hx => by
      by_cases hj : j = i
      · subst hj
        rw [List.getElem?_set_self hi] at e
        cases e
        exact absurd rfl hx
      · rw [List.getElem?_set_ne (Ne.symm hj)] at e
        exact ⟨e, List.getElem?_set_ne (Ne.symm hj)⟩
    have hiσ : i < σ.length := by rw [← q.ok.len]; exact hi
    have npo : ¬ Own (s1.set i .un) (σ.set i (some (.ref p))) p := fun z => k1.ap p z (.inr rfl)
    have own' : ∀ b, Own (s1.set i (.ow o)) (σ.set i (some (.ref p))) b ↔ (Own (s1.set i .un) (σ.set i (some (.ref p))) b ∨ b = p) := fun b => by
      constructor
      · rintro ⟨j, u, e1, e2⟩
        by_cases hj : j = i
        · subst hj
          rw [List.getElem?_set_self hiσ] at e2
          cases e2
          exact .inr rfl
        · rw [List.getElem?_set_ne (Ne.symm hj)] at e1
          exact .inl ⟨j, u, by rw [List.getElem?_set_ne (Ne.symm hj)]; exact e1, e2⟩
      · rintro (⟨j, u, e1, e2⟩ | rfl)
        · by_cases hj : j = i
          · subst hj
            rw [List.getElem?_set_self hi] at e1
            cases e1
          · rw [List.getElem?_set_ne (Ne.symm hj)] at e1
            exact ⟨j, u, by rw [List.getElem?_set_ne (Ne.symm hj)]; exact e1, e2⟩
        · exact ⟨i, o, List.getElem?_set_self hi, List.getElem?_set_self hiσ⟩
    have nn : Nn F (s1.set i (.ow o)) (σ.set i (some (.ref p))) = Nn (Ad F p) (s1.set i .un) (σ.set i (some (.ref p))) := by
      funext b
      apply propext
      constructor
      · rintro (z | z)
        · exact .inl (.inl z)
        · rcases (own' b).mp z with z | z
          · exact .inr z
          · exact .inl (.inr z)
      · rintro ((z | z) | z)
        · exact .inl z
        · exact .inr ((own' b).mpr (.inr z))
        · exact .inr ((own' b).mpr (.inl z))
    have at' : OwAt K (Nn F (s1.set i (.ow o)) (σ.set i (some (.ref p)))) H1 p o := by
      rw [nn]
      exact q.at_.mono rfl f1.le
    have ff : Fr F (Nn F s σ) H (Nn F (s1.set i (.ow o)) (σ.set i (some (.ref p)))) H1 := by
      rw [nn]
      exact ⟨q.fr.keep, fun b u n t e => let ⟨e1, n1⟩ := q.fr.imm b u n t e; f1.imm b u n1 t e1⟩
    refine ⟨⟨by rw [List.length_set, List.length_set]; exact q.ok.len, fun j d e => ?_, fun j u e => ?_, fun a b u u' c e e' g g' => ?_, fun b z => ?_, fun b z => q.ok.dom b (.inl z), q.ok.tb⟩, ff, List.length_set, pr⟩
    · by_cases hj : j = i
      · subst hj
        rw [List.getElem?_set_self hi] at e
        cases e
      · rw [List.getElem?_set_ne (Ne.symm hj)] at e
        obtain ⟨v', e1, r⟩ := k1.sh j d (by rw [List.getElem?_set_ne (Ne.symm hj)]; exact e)
        exact ⟨v', e1, by rw [nn]; exact r⟩
    · by_cases hj : j = i
      · subst hj
        rw [List.getElem?_set_self hi] at e
        cases e
        exact ⟨p, List.getElem?_set_self hiσ, at'⟩
      · rw [List.getElem?_set_ne (Ne.symm hj)] at e
        obtain ⟨v', e1, r⟩ := k1.ow j u (by rw [List.getElem?_set_ne (Ne.symm hj)]; exact e)
        exact ⟨v', e1, by rw [nn]; exact r⟩
    · have other : ∀ {j : Nat} {u : Ob}, j ≠ i → (s1.set i (.ow o))[j]? = some (.ow u) → (s1.set i .un)[j]? = some (.ow u) := fun {j u} hj e => by
        rw [List.getElem?_set_ne (Ne.symm hj)] at e ⊢
        exact e
      by_cases ha : a = i
      · by_cases hb : b = i
        · rw [ha, hb]
        · exfalso
          rw [ha, List.getElem?_set_self hiσ] at g
          cases g
          exact npo ⟨b, u', other hb e', g'⟩
      · by_cases hb : b = i
        · exfalso
          rw [hb, List.getElem?_set_self hiσ] at g'
          cases g'
          exact npo ⟨a, u, other ha e, g⟩
        · exact k1.inj a b u u' c (other ha e) (other hb e') g g'
    · rcases (own' b).mp z with z | rfl
      · exact fun y => k1.ap b z (.inl y)
      · exact q.nf
/-- an owned slot's content leaves -/
theorem StOk.leave (k : StOk K F s σ H) {i : Nat} {o : Ob} {p : Addr} (e : s[i]? = some (.ow o)) (ep : σ[i]? = some (some (.ref p))) : AftW K F s σ H o (s.set i .un) p H := by
  have hi := get_lt e
  have own' : ∀ b, Own s σ b ↔ (Own (s.set i .un) σ b ∨ b = p) := fun b => by
    constructor
    · rintro ⟨j, u, e1, e2⟩
      by_cases hj : j = i
      · subst hj
        rw [ep] at e2
        cases e2
        exact .inr rfl
      · exact .inl ⟨j, u, by rw [List.getElem?_set_ne (Ne.symm hj)]; exact e1, e2⟩
    · rintro (⟨j, u, e1, e2⟩ | rfl)
      · by_cases hj : j = i
        · subst hj
          rw [List.getElem?_set_self hi] at e1
          cases e1
        · rw [List.getElem?_set_ne (Ne.symm hj)] at e1
          exact ⟨j, u, e1, e2⟩
      · exact ⟨i, o, e, ep⟩
  have np : ¬ Own (s.set i .un) σ p := fun ⟨j, u, e1, e2⟩ => by
    by_cases hj : j = i
    · subst hj
      rw [List.getElem?_set_self hi] at e1
      cases e1
    · rw [List.getElem?_set_ne (Ne.symm hj)] at e1
      exact hj (k.inj j i u o p e1 e e2 ep)
  have nn : Nn (Ad F p) (s.set i .un) σ = Nn F s σ := by
    funext b
    apply propext
    constructor
    · rintro ((z | z) | z)
      · exact .inl z
      · exact .inr ((own' b).mpr (.inr z))
      · exact .inr ((own' b).mpr (.inl z))
    · rintro (z | z)
      · exact .inl (.inl z)
      · rcases (own' b).mp z with z | z
        · exact .inr z
        · exact .inl (.inr z)
  obtain ⟨p', ep', q⟩ := k.ow i o e
  rw [ep] at ep'
  cases ep'
  have back : ∀ {j : Nat} {x : Sl}, x ≠ .un → (s.set i .un)[j]? = some x → s[j]? = some x := fun {j x} hx z => by
    by_cases hj : j = i
    · subst hj
      rw [List.getElem?_set_self hi] at z
      cases z
      exact absurd rfl hx
    · rw [List.getElem?_set_ne (Ne.symm hj)] at z
      exact z
  refine ⟨⟨by rw [List.length_set]; exact k.len, fun j d z => ?_, fun j u z => ?_, fun a b u u' c z z' g g' => k.inj a b u u' c (back (fun y => nomatch y) z) (back (fun y => nomatch y) z') g g', fun b z y => ?_, fun b z => ?_, k.tb⟩, ?_, fun z => k.ap p ⟨i, o, e, ep⟩ z, by rw [nn]; exact q⟩
  · obtain ⟨v, e1, r⟩ := k.sh j d (back (fun y => nomatch y) z)
    exact ⟨v, e1, by rw [nn]; exact r⟩
  · obtain ⟨v, e1, r⟩ := k.ow j u (back (fun y => nomatch y) z)
    exact ⟨v, e1, by rw [nn]; exact r⟩
  · rcases y with y | y
    · exact k.ap b ((own' b).mpr (.inl z)) y
    · exact np (y ▸ z)
  · rcases z with z | z
    · exact k.dom b z
    · exact z ▸ q.there'
  · rw [nn]
    exact Fr.refl
end
end Hg
set_option Elab.async false
set_option linter.all false
set_option maxRecDepth 100000
set_option maxHeartbeats 400000
/-! A call with one thing just made. -/
namespace Hg
open PySem PySem.Spec PyProof.Rows L2 RZ RT
section
variable {K : PySem.W.Frag} {F : NS} {s s1 : S} {σ : L2.St} {H H1 H' : Hp}
theorem get_app {α : Type} {l : List α} {x y : α} {j : Nat} (h : (l ++ [x])[j]? = some y) : l[j]? = some y ∨ (j = l.length ∧ y = x) := by
  by_cases hj : j < l.length
  · rw [List.getElem?_append_left hj] at h
    exact .inl h
  · rw [List.getElem?_append_right (by omega)] at h
    have e : j - l.length = 0 := by
      by_cases z : j - l.length = 0
      · exact z
      · rw [List.getElem?_eq_none (by simp; omega)] at h
        cases h
    rw [e] at h
    cases h
    exact .inr ⟨by omega, rfl⟩
theorem app_get {α : Type} {l : List α} {x y : α} {j : Nat} (h : l[j]? = some y) : (l ++ [x])[j]? = some y := by
  rw [List.getElem?_append_left (List.getElem?_eq_some_iff.mp h).1]
  exact h
theorem own_app (hl : s.length = σ.length) (b : Addr) : Own (s ++ [.un]) (σ ++ [none]) b ↔ Own s σ b := by
  constructor
  · rintro ⟨j, o, e1, e2⟩
    rcases get_app e1 with z | ⟨_, z⟩
    · rcases get_app e2 with y | ⟨_, y⟩
      · exact ⟨j, o, z, y⟩
      · cases y
    · cases z
  · rintro ⟨j, o, e1, e2⟩
    exact ⟨j, o, app_get e1, app_get e2⟩
theorem nn_app (hl : s.length = σ.length) : Nn F (s ++ [.un]) (σ ++ [none]) = Nn F s σ := by
  funext b
  exact propext (or_congr Iff.rfl (own_app hl b))
theorem StOk.more (k : StOk K F s σ H) : StOk K F (s ++ [.un]) (σ ++ [none]) H := by
  have hl := k.len
  refine (k.sub (s' := s ++ [.un]) (σ' := σ ++ [none]) (by simp [hl]) fun j x e hx => ?_).1
  rcases get_app e with z | ⟨_, z⟩
  · refine ⟨z, ?_⟩
    rw [List.getElem?_append_left (by rw [← hl]; exact get_lt z)]
  · exact absurd z hx
/-- one slot more, with the thing in it -/
theorem AftW.more {o : Ob} {p : Addr} (k : StOk K F s σ H) (a : AftW K F s σ H o s1 p H1) : StOk K F (s1 ++ [.ow o]) (σ ++ [some (.ref p)]) H1 ∧ Fr F (Nn F s σ) H (Nn F (s1 ++ [.ow o]) (σ ++ [some (.ref p)])) H1 := by
  have hl := k.len
  have hl1 : s1.length = σ.length := a.ok.len
  have a2 : AftW K F (s ++ [.un]) (σ ++ [none]) H o (s1 ++ [.un]) p H1 := by
    refine ⟨a.ok.more, ?_, a.nf, ?_⟩
    · rw [nn_app hl, nn_app hl1]
      exact a.fr
    · rw [nn_app hl1]
      exact a.at_
  have z := StOk.putS (P := []) (i := s1.length) (r := .ow o) (v := .ref p) k.more ⟨p, rfl, a2⟩ (by simp) (by simp)
  have e1 : (s1 ++ [Sl.un]).set s1.length (.ow o) = s1 ++ [.ow o] := by simp
  have e2 : (σ ++ [none]).set s1.length (some (.ref p)) = σ ++ [some (.ref p)] := by rw [hl1]; simp
  rw [e1, e2] at z
  have f := z.fr
  rw [nn_app hl] at f
  exact ⟨z.ok, f⟩
/-- the slot more is forgotten -/
theorem StOk.less {F1 : NS} {o : Sl} {v : Option V} (hl : s.length = σ.length) (k : StOk K F1 (s ++ [o]) (σ ++ [v]) H) : StOk K F1 s σ H ∧ Fr F1 (Nn F1 (s ++ [o]) (σ ++ [v])) H (Nn F1 s σ) H :=
  k.sub hl fun j x e hx => ⟨app_get e, by rw [List.getElem?_append_left (by rw [← hl]; exact get_lt e)]⟩
theorem AftS.less {r : Sl} {o o' : Sl} {v : Option V} {u : V} (hl : s1.length = σ.length) (f : Fr F (Nn F s σ) H (Nn F (s1 ++ [o]) (σ ++ [v])) H1) (a : AftS K F (s1 ++ [o]) (σ ++ [v]) H1 r (s1 ++ [o']) u H') : AftS K F s σ H r s1 u H' := by
  cases r with
  | un => exact a
  | sh d =>
    have a : AftD K F (s1 ++ [o]) (σ ++ [v]) H1 d (s1 ++ [o']) u H' := a
    obtain ⟨k2, f2⟩ := StOk.less hl a.ok
    exact ⟨k2, (f.trans a.fr).trans f2, Rp.mono f2.le _ _ a.rp⟩
  | ow w =>
    obtain ⟨p, e, q⟩ := a
    obtain ⟨k2, f2⟩ := StOk.less hl q.ok
    have f3 := f.trans q.fr
    exact ⟨p, e, k2, ⟨f3.keep, fun b o n t e => let ⟨e1, n1⟩ := f3.imm b o n t e; f2.imm b o n1 t e1⟩, q.nf, q.at_.mono rfl f2.le⟩
end
section
variable {EC : Nat → Addr} {C : Cal} {k : Nat} {X : Cx} {W : WX} {e : Expr} {n : Str} {p pos : Pos} {m : M Sl}
theorem tmp_use {f : Nat} {F : NS} {s s1 : S} {σ : L2.St} {H H1 : Hp} {r : Sl} {v : V} {Q : VK} (k : StOk X.K F s σ H) (a : AftS X.K F s σ H r s1 v H1)
    (w : Wp X.K EC W F s σ H (tmpM C f r s1) fun r s' => ∀ v H', AftS X.K F s σ H r s' v H' → Q v H') : spF X.K EC (C.io f).length (C.run f) [v] H1 Q (WE W σ) := by
  cases r with
  | un => exact a.elim
  | sh d => exact w.elim
  | ow o =>
    obtain ⟨p, rfl, q⟩ := a
    have w : Wp X.K EC W F s σ H (if (C.io f).length = 1 then (match C.run f [.ow o] with
      | .ok r [_] => .ok r s1
      | .err e [_] => .err e s1
      | _ => .bad) else .bad) fun r s' => ∀ v H', AftS X.K F s σ H r s' v H' → Q v H' := w
    by_cases hl : (C.io f).length = 1
    case neg => rw [if_neg hl] at w; exact w.elim
    rw [if_pos hl] at w
    obtain ⟨ke, fe⟩ := AftW.more k q
    have hn : s1.length = σ.length := q.ok.len
    have at_ : (s1 ++ [Sl.ow o])[s1.length]? = some (.ow o) := by simp
    have atσ : (σ ++ [some (V.ref p)])[s1.length]? = some (some (.ref p)) := by rw [hn]; simp
    refine call_use (C := C) (W := fun cls d _ H' => W cls d σ H') (as := [.io s1.length]) (s := s1 ++ [.ow o]) (s1 := s1 ++ [.ow o]) (σ := σ ++ [some (.ref p)]) (H := H1) hl.symm ⟨ke, Fr.refl, .io atσ .nil⟩ ?_
    have e1 : callM C f [.io s1.length] (s1 ++ [.ow o]) = callE (C.run f [.ow o]) [s1.length] (s1 ++ [.ow o]) := by
      have e2 : argSls (s1 ++ [.ow o]) [.io s1.length] = some [.ow o] := by
        have e3 : ioSl (s1 ++ [Sl.ow o]) s1.length = some (.ow o) := by
          unfold ioSl
          rw [at_]
        show (match ioSl (s1 ++ [.ow o]) s1.length, (some [] : Option (List Sl)) with
          | some x, some xs => some (x :: xs)
          | _, _ => none) = _
        rw [e3]
      show (if (ioIx [Ag.io s1.length]).Nodup then (match argSls (s1 ++ [.ow o]) [.io s1.length] with
        | none => R.bad
        | some vs => callE (C.run f vs) (ioIx [Ag.io s1.length]) (s1 ++ [Sl.ow o])) else .bad) = _
      rw [if_pos (by show [s1.length].Nodup; simp), e2]
      rfl
    rw [e1]
    have put : ∀ o', putOuts (s1 ++ [Sl.ow o]) [s1.length] [o'] = s1 ++ [.ow o'] := fun o' => by
      show (s1 ++ [Sl.ow o]).set s1.length (.ow o') = _
      simp
    cases hr : C.run f [.ow o] with
    | bad => rw [hr] at w; exact w.elim
    | ok r outs =>
      rw [hr] at w
      match outs, w with
      | [o'], w =>
        have w : ∀ v H', AftS X.K F s σ H r s1 v H' → Q v H' := w
        show Wp X.K EC _ F _ _ H1 (if [o'].length = [s1.length].length then .ok r (putOuts (s1 ++ [.ow o]) [s1.length] [o']) else .bad) _
        rw [if_pos (show [o'].length = [List.length s1].length from rfl), put]
        exact fun v H' z => w v H' (AftS.less hn fe z)
      | [], w => exact w.elim
      | _ :: _ :: _, w => exact w.elim
    | err u outs =>
      rw [hr] at w
      match outs, w with
      | [o'], w =>
        have w : ∀ (H' : Hp) (cls : Value) (d : Option Addr), StOk X.K F s1 σ H' → Fr F (Nn F s σ) H (Nn F s1 σ) H' → ErR EC u cls d → W cls d σ H' := w
        show Wp X.K EC _ F _ _ H1 (if [o'].length = [s1.length].length then .err u (putOuts (s1 ++ [.ow o]) [s1.length] [o']) else .bad) _
        rw [if_pos (show [o'].length = [List.length s1].length from rfl), put]
        intro H' cls d kk ff er
        obtain ⟨k2, f2⟩ := StOk.less hn kk
        exact w H' cls d k2 ((fe.trans ff).trans f2) er
      | [], w => exact w.elim
      | _ :: _ :: _, w => exact w.elim
theorem E_callT {f : Nat} (tk : Takes X W) (hr : Room k X.A) (hg : Gl X n) (hd : (n == ("__debug__" : Str)) = false) (hF : FnAt X EC C k f n) (he : PE X e (tE X.K EC W m)) (hst : noStar e = true) :
    PE X (.Call (.Name n p) [e] [] pos) (tE X.K EC W (m.bind (tmpM C f))) := by
  obtain ⟨ad, fd, ps, hm, hk, hb, _, F⟩ := hF
  exact peW (pe_callS F hr hg hm hk hb (passAt tk) (pa_cons he pa_nil (star_cons hst _)) hd (star_cons hst _) rfl) fun σ H Q ⟨Fs, s, k, w⟩ => ⟨Fs, s, k, w.bind.mono fun r s1 hx v H1 ax => tmp_use k ax hx⟩
end
end Hg
set_option Elab.async false
set_option linter.all false
set_option maxRecDepth 100000
set_option maxHeartbeats 400000
/-! Every expression runs as its term says: the rest, and the whole. -/
namespace Hg
open PySem PySem.Spec PyProof.Rows L2 RZ RT
section
variable {EC : Nat → Addr} {C : Cal} {k : Nat} {X : Cx} {W : WX} {x : Sx} {a e : Expr} {es : List Expr} {n : Str} {i : Nat} {p pos : Pos}
theorem E_call0 {f : Nat} (tk : Takes X W) (hr : Room k X.A) (hg : Gl X n) (hd : (n == ("__debug__" : Str)) = false) (hF : FnAt X EC C k f n) :
    PE X (.Call (.Name n p) [] [] pos) (tE X.K EC W ((evAs C (C.io f) .nil).bind fun as => callM C f as)) := by
  obtain ⟨ad, fd, ps, hm, hk, hb, hl, F⟩ := hF
  refine peW (pe_callS0 F hr hg hm hk hb (passAt tk) hd) fun σ H Q ⟨Fs, s, kk, w⟩ => ?_
  have w := w.len
  rcases evAs_nil (C := C) (bs := C.io f) (s := s) with q | q
  · rw [q] at w
    exact w.elim
  · rw [q] at w
    exact call_use (evAs_len q) ⟨kk, Fr.refl, .nil⟩ w.2
theorem E_callN0 {f : Nat} (tk : Takes X W) (hr : Room k X.A) (hg : Gl X n) (hd : (n == ("__debug__" : Str)) = false) (hF : FnAt X EC C k f n) :
    PE X (.Call (.Name n p) [] [] pos) (tE X.K EC W ((evOs C .nil).bind fun xs => callN C f xs)) := by
  obtain ⟨ad, fd, ps, hm, hk, hb, hl, F⟩ := hF
  refine peW (pe_callS0 F hr hg hm hk hb (passAt tk) hd) fun σ H Q ⟨Fs, s, kk, w⟩ => ?_
  have w : Wp X.K EC W Fs s σ H (callN C f [] s) fun r s' => ∀ v H', AftS X.K Fs s σ H r s' v H' → Q v H' := by
    have e : ((evOs C .nil).bind fun xs => callN C f xs) s = callN C f [] s := by
      rw [evOs]
      rfl
    rw [← e]
    exact w
  exact callN_use ⟨kk, Fr.refl, .nil⟩ w
theorem s_call {f : Nat} {xs : Exs} (h1 : GoodEs EC C k xs) : GoodE EC C k (.call f xs) := fun X W x a c h => by
  unfold chE at h
  split at h
  · rename_i n p l kw p2
    rw [Bool.and_eq_true, Bool.and_eq_true, Bool.and_eq_true] at h
    obtain ⟨⟨⟨n1, n2⟩, n3⟩, q⟩ := h
    cases kw_nil n1
    obtain ⟨g1, g2, _⟩ := c.gl n3
    have F := c.fn f n (of_decide_eq_true n2)
    have es := h1 X W x l c q
    have z : PE X (.Call (.Name n p) l [] p2) (tE X.K EC W (evE C (.call f xs))) := by
      rw [evE]
      by_cases hio : hasT (C.io f) = true
      · rw [if_pos hio]
        by_cases ht : isTmp xs = true
        · rw [if_pos ht]
          have one : ∃ a, l = [a] := by
            cases xs with
            | nil => cases ht
            | cons e1 r =>
              cases r with
              | cons e2 r2 => cases e1 <;> cases ht
              | nil =>
                cases l with
                | nil => unfold chEs at q; cases q
                | cons a l2 =>
                  unfold chEs at q
                  rw [Bool.and_eq_true] at q
                  have q2 := q.2
                  cases l2 with
                  | nil => exact ⟨a, rfl⟩
                  | cons b l3 => unfold chEs at q2; cases q2
          obtain ⟨b, rfl⟩ := one
          have pl := es.pl
          rw [List.all_cons, Bool.and_eq_true] at pl
          exact E_callT c.tk c.room g1 g2 F (es.tm b rfl) pl.1
        · rw [if_neg ht]
          cases l with
          | nil =>
            have e : xs = .nil := by
              cases xs with
              | nil => rfl
              | cons a b => unfold chEs at q; cases q
            subst e
            exact E_call0 c.tk c.room g1 g2 F
          | cons b bs =>
            have pl := es.pl
            rw [List.all_cons, Bool.and_eq_true] at pl
            exact E_call c.tk c.room g1 g2 F (es.as (C.io f)) pl.1 pl.2
      · rw [if_neg hio]
        cases l with
        | nil =>
          have e : xs = .nil := by
            cases xs with
            | nil => rfl
            | cons a b => unfold chEs at q; cases q
          subst e
          exact E_callN0 c.tk c.room g1 g2 F
        | cons b bs =>
          have pl := es.pl
          rw [List.all_cons, Bool.and_eq_true] at pl
          exact E_callN c.tk c.room g1 g2 F es.os pl.1 pl.2
    exact ⟨rfl, z, pt_plain z fun _ => rfl⟩
  · cases h
theorem s_bf {b : Bf} {xs : Exs} (h1 : GoodEs EC C k xs) : GoodE EC C k (.bf b xs) := fun X W x a c h => by
  unfold chE at h
  split at h
  · rename_i n p l ls kw p2
    rw [Bool.and_eq_true, Bool.and_eq_true, Bool.and_eq_true] at h
    obtain ⟨⟨⟨n1, n2⟩, n3⟩, q⟩ := h
    cases kw_nil n1
    obtain ⟨g1, g2⟩ := c.bl n3
    have es := h1 X W x _ c q
    have pl := es.pl
    rw [List.all_cons, Bool.and_eq_true] at pl
    have z := E_bf (EC := EC) (W := W) (p := p) (pos := p2) (b := b) c.calm (of_decide_eq_true n2) g1 g2 es.os pl.1 pl.2
    exact ⟨rfl, z, pt_plain z fun _ => rfl⟩
  · cases h
theorem ty_boot : ∀ t : Ty, bootBuiltins (Str.ofString t.name) = some (.type t.name)
  | .int => by decide +kernel
  | .bool => by decide +kernel
  | .tuple => by decide +kernel
  | .list => by decide +kernel
  | .str => by decide +kernel
theorem ty_dbg : ∀ t : Ty, (Str.ofString t.name == ("__debug__" : Str)) = false ∧ Str.ofString t.name ≠ "__name__"
  | .int => by decide +kernel
  | .bool => by decide +kernel
  | .tuple => by decide +kernel
  | .list => by decide +kernel
  | .str => by decide +kernel
theorem ty_ok (c : Ctx EC C k X W x) {t : Ty} (h : x.ty t a = true) : plainE a = true ∧ PE X a (tC (.ty t.name)) := by
  unfold Sx.ty at h
  split at h
  · rename_i n p
    rw [Bool.and_eq_true] at h
    cases of_decide_eq_true h.1
    obtain ⟨g1, g2⟩ := c.bl h.2
    exact ⟨rfl, pe_bltn g1 g2 (ty_boot t) rfl (ty_dbg t).2 (ty_dbg t).1⟩
  · cases h
theorem tys_ok (c : Ctx EC C k X W x) : ∀ {ts : List Ty} {l : List Expr}, x.tys ts l = true → PA X l (fun σ H Q => Q (ts.map fun (t : Ty) => V.ty t.name) H)
  | [], [], _ => pa_nil
  | t :: ts, e :: es, h => by
    have h : (x.ty t e && x.tys ts es) = true := h
    rw [Bool.and_eq_true] at h
    obtain ⟨p1, v1⟩ := ty_ok c h.1
    exact pa_cons v1 (tys_ok c h.2) (star_cons (plain_star p1) _)
  | [], _ :: _, h => by cases h
  | _ :: _, [], h => by cases h
theorem s_isi {e1 : Ex} {ts : List Ty} (h1 : GoodE EC C k e1) : GoodE EC C k (.isi e1 ts) := fun X W x a c h => by
  unfold chE at h
  split at h
  · rename_i n p l r kw p2
    simp only [Bool.and_eq_true, decide_eq_true_eq] at h
    obtain ⟨⟨⟨⟨⟨n1, n2⟩, n3⟩, q⟩, qt⟩, hl⟩ := h
    cases kw_nil n1
    obtain ⟨g1, g2⟩ := c.bl n3
    have hr : plainE r = true ∧ ((∃ t : Ty, ts = [t] ∧ PE X r (tC (.ty t.name))) ∨ PE X r (tTup fun σ H Q => Q (ts.map fun (t : Ty) => V.ty t.name) H)) := by
      unfold Sx.tyE at qt
      split at qt
      · obtain ⟨a1, a2⟩ := ty_ok c qt
        exact ⟨a1, .inl ⟨_, rfl, a2⟩⟩
      · exact ⟨rfl, .inr (pe_tup (tys_ok c qt))⟩
      · cases qt
    have z := E_isi (EC := EC) (W := W) (p := p) (pos := p2) n2 g1 g2 (opnd_ok h1 c q) (plain_star (h1 X W x _ c q).1) (plain_star hr.1) hl hr.2
    exact ⟨rfl, z, pt_plain z fun _ => rfl⟩
  · cases h
theorem s_pop {e1 : Ex} (h1 : GoodE EC C k e1) : GoodE EC C k (.pop i e1) := fun X W x a c h => by
  unfold chE at h
  split at h
  · rename_i n p m ap l kw cp
    simp only [Bool.and_eq_true, decide_eq_true_eq] at h
    obtain ⟨⟨⟨⟨n1, rfl⟩, n3⟩, q⟩, hl⟩ := h
    cases kw_nil n1
    obtain ⟨p1, v1, _⟩ := h1 X W x _ c q
    have z := E_pop (EC := EC) (W := W) (c.name (p := p) n3) v1 (plain_star p1) hl
    exact ⟨rfl, z, pt_plain z fun _ => rfl⟩
  · cases h
theorem E_cget {g : Str} {tab : List (Str × Int)} {a : Expr} {m : M Sl} {p1 ap cp : Pos} (T : TabAt X g tab) (hg : Gl X g) (hdb : (g == ("__debug__" : Str)) = false) (ha : PE X a (tE X.K EC W m)) (na : noStar a = true) (hl : (ap.endLine == cp.line) = true) :
    PE X (.Call (.Attribute (.Name g p1) "get" ap) [a] [] cp) (tE X.K EC W ((frz m).bind fun d => lift (cgetD tab d))) := by
  obtain ⟨d, es, n, hm, D, look⟩ := T
  refine ⟨fun pins s σ H Q I h => ?_⟩
  have ho : PE X (.Name g p1) (tC (.ref d)) := pe_glob hg hm rfl hdb
  refine wpAny_Call_method rfl (few_one na) hl PySem.F.plainAttrs_dict PySem.F.slot_dict_get PySem.F.type_dict_get (thn (ho.run pins s σ H (fun v H1 => v = .ref d ∧ H1 = H) I ⟨rfl, rfl⟩) fun u s1 ⟨x, H1, I1, rx, ex, eH⟩ => ?_)
  subst ex
  rw [eH] at I1
  obtain rfl : u = Value.ref d := rx
  refine ⟨kd_type D I1, fun b q => by cases q; exact ⟨_, I1.kIn _ _ D.at_, rfl⟩, ?_⟩
  have tr : backTo cp (starEach [a] X.env) = [(false, eval a X.env)] := by
    rw [star_cons na]
    rfl
  rw [tr]
  obtain ⟨F, st, k, w⟩ := h
  have w' : tD X.K EC W (frz m) σ H (fun v H1 => ∃ s1, (∃ dd, AftD X.K F st σ H dd s1 v H1 ∧ Wp X.K EC W F st σ H (lift (cgetD tab dd) s1) fun r s' => ∀ v H', AftS X.K F st σ H r s' v H' → Q v H')) := ⟨F, st, k, w.bind.mono fun dd s2 hd v H1 ad => ⟨s2, dd, ad, hd⟩⟩
  refine Calls.callWith_builtin rfl (Calls.evalArgs_plain (Calls.spliced_cons (thn ((pe_frz ha).run pins s1 σ H _ I1 w') fun iv s2 ⟨y, H2, I2, ry, s3, dd, ad, hd⟩ => Calls.spliced_nil ?_)))
  obtain ⟨r, e3, hd⟩ := hd.lift
  cases dd with
  | str z =>
    cases ad.rp
    obtain ⟨t, rfl⟩ := ry
    obtain ⟨r0, e4, e5⟩ := look z
    refine call_meetsIn PySem.F.slot_dict_get (kd_type D I2) PySem.F.entry_dict_get (PySem.F.args_dict_get_2 _ _) (meets_dict_get (strKind X.prog X.w) d (PySem.strKind_is X.prog X.w z t) D.low) ⟨_, PySem.W.mapOf_K (prog := X.prog) I2.kIn D.at_ D.lit, ?_⟩
    rw [PySem.W.find_K D.at_ e4]
    have e3 : some (Sl.sh (match tab.lookup z with
      | some i => .int i
      | none => .none)) = some r := e3
    cases e3
    cases q : tab.lookup z with
    | some i =>
      rw [q] at e5 hd
      obtain ⟨u, rfl, ru⟩ := e5
      exact ⟨.int i, H2, I2.tok _, ru, hd _ _ ⟨ad.ok, ad.fr, .int i⟩⟩
    | none =>
      rw [q] at e5 hd
      subst e5
      exact ⟨.non, H2, I2.tok _, rfl, hd _ _ ⟨ad.ok, ad.fr, .non⟩⟩
  | _ => cases e3
theorem s_cget {g : Str} {tab : List (Str × Int)} {e1 : Ex} (h1 : GoodE EC C k e1) : GoodE EC C k (.cget g tab e1) := fun X W x a c h => by
  unfold chE at h
  split at h
  · rename_i n p m ap l kw cp
    simp only [Bool.and_eq_true, decide_eq_true_eq] at h
    obtain ⟨⟨⟨⟨⟨⟨n1, rfl⟩, rfl⟩, n3⟩, n4⟩, q⟩, hl⟩ := h
    cases kw_nil n1
    obtain ⟨p1, v1, _⟩ := h1 X W x _ c q
    obtain ⟨g1, g2, _⟩ := c.gl n3
    have z : PE X (.Call (.Attribute (.Name g p) "get" ap) [l] [] cp) (tE X.K EC W (evE C (.cget g tab e1))) := E_cget (c.tbl _ _ n4) g1 g2 v1 (plain_star p1) hl
    exact ⟨rfl, z, pt_plain z fun _ => rfl⟩
  · cases h
theorem s_app {e1 : Ex} (h1 : GoodE EC C k e1) : GoodE EC C k (.app i e1) := fun X W x a c h => by
  unfold chE at h
  split at h
  · rename_i n p m ap l kw cp
    simp only [Bool.and_eq_true, decide_eq_true_eq] at h
    obtain ⟨⟨⟨⟨n1, rfl⟩, n3⟩, q⟩, hl⟩ := h
    cases kw_nil n1
    obtain ⟨p1, v1, _⟩ := h1 X W x _ c q
    have z := E_app (EC := EC) (W := W) (c.name (p := p) n3) v1 (plain_star p1) hl
    exact ⟨rfl, z, pt_plain z fun _ => rfl⟩
  · cases h
theorem s_ext {e1 : Ex} (h1 : GoodE EC C k e1) : GoodE EC C k (.ext i e1) := fun X W x a c h => by
  unfold chE at h
  split at h
  · rename_i n p m ap l kw cp
    simp only [Bool.and_eq_true, decide_eq_true_eq] at h
    obtain ⟨⟨⟨⟨n1, rfl⟩, n3⟩, q⟩, hl⟩ := h
    cases kw_nil n1
    obtain ⟨p1, v1, _⟩ := h1 X W x _ c q
    have z := E_ext (EC := EC) (W := W) (c.name (p := p) n3) v1 (plain_star p1) hl
    exact ⟨rfl, z, pt_plain z fun _ => rfl⟩
  · cases h
theorem s_ins {e1 e2 : Ex} (h1 : GoodE EC C k e1) (h2 : GoodE EC C k e2) : GoodE EC C k (.ins i e1 e2) := fun X W x a c h => by
  unfold chE at h
  split at h
  · rename_i n p m ap l1 l kw cp
    simp only [Bool.and_eq_true, decide_eq_true_eq] at h
    obtain ⟨⟨⟨⟨⟨n1, rfl⟩, n3⟩, q1⟩, q2⟩, hl⟩ := h
    cases kw_nil n1
    obtain ⟨p1, v1, _⟩ := h1 X W x _ c q1
    obtain ⟨p2, v2, _⟩ := h2 X W x _ c q2
    have z := E_ins (EC := EC) (W := W) (c.name (p := p) n3) v1 v2 (plain_star p1) (plain_star p2) hl
    exact ⟨rfl, z, pt_plain z fun _ => rfl⟩
  · cases h
theorem bad_ok {e1 : Ex} (h : ∀ x a, chE x e1 a = false) : GoodE EC C k e1 := fun X W x a c q => by
  rw [h] at q
  cases q
theorem s_rev {e1 : Ex} (h1 : GoodE EC C k e1) : GoodE EC C k (.rev e1) := fun X W x a c h => by
  unfold chE at h
  split at h
  · have v1 := (h1 X W x _ c h).2.1
    rename_i l kk p1 p2 p3 pos
    have z : PE X (.Subscript l (.Slice none none (some (.UnaryOp .USub (.Constant (.int 1) kk p1) p2)) p3) pos) (tE X.K EC W ((frz (evE C e1)).bind fun d => lift (rvD d))) := peW (pe_revL (pe_frz v1)) fun σ H Q ⟨F, s, k, w⟩ => ⟨F, s, k, w.bind.mono fun d s1 hd v H1 ad => by
      obtain ⟨r, e, hd⟩ := hd.lift
      cases d with
      | list xs =>
        cases (show some (Sl.ow (.lst xs.reverse)) = some r from e)
        cases ad.rp with
        | lst q1 q2 => exact ⟨_, _, rfl, (hid_le.rdK q1).sqL, fun p hp => hd _ _ ⟨p, rfl, AftW.new ad.ok ad.fr hp q2.reverse⟩⟩
      | _ => cases e⟩
    exact ⟨rfl, z, pt_plain z fun _ => rfl⟩
  · cases h
/-! ### comprehensions -/
structure LcOk (EC : Nat → Addr) (C : Cal) (X : Cx) (W : WX) (src : Src) (tg : Tg) (cd el : Ex) (own : List Nat) (el' t it : Expr) (ifs : List Expr) (scope : Scope) : Prop where
  hi : PI X t it (tSr X.K EC W (evSrc C src))
  ok : BlkOk X.N X.env.scope scope (ownP X.N own)
  hg : ∀ (s : Shared) (H : Hp) (A : Addr) (cl : List (Str × Addr)) (fp : List Addr), PG (X.blk s H scope (compEnvC scope cl A X.env) fp) t (tPut X.K tg)
  ht : ∀ (s : Shared) (H : Hp) (A : Addr) (cl : List (Str × Addr)) (fp : List Addr), PTs (X.blk s H scope (compEnvC scope cl A X.env) fp) ifs (tBo X.K EC WF (testM (evE C cd)))
  he : ∀ (s : Shared) (H : Hp) (A : Addr) (cl : List (Str × Addr)) (fp : List Addr), PE (X.blk s H scope (compEnvC scope cl A X.env) fp) el' (tD X.K EC WF (frz (evE C el)))
  hs : ∀ y, foldedSetIterable it X.env y = pure y
  sub : ∀ j, j ∈ tgIx tg → j ∈ own
theorem ptsW {X : Cx} {l : List Expr} {t t' : TT} (h : PTs X l t) (w : ∀ σ H Q, t' σ H Q → t σ H Q) : PTs X l t' := ⟨fun pins s σ H Q I q => h.run pins s σ H Q I (w _ _ _ q)⟩
theorem lc_parts {src : Src} {tg : Tg} {cd el : Ex} {own : List Nat} {el' t it : Expr} {ifs : List Expr} {scope : Scope} {kk : Int} (h1 : GoodS EC C k src) (h2 : GoodT EC C k tg) (h3 : GoodE EC C k cd) (h4 : GoodE EC C k el) (c : Ctx EC C k X W x)
    (h : (decide (kk = 0) && blkC x.N x.sc scope (ownP x.N own) && chS x src t it && chT (x.blk scope) tg t && ((tgIx tg).all fun i => own.contains i) && (match ifs with
      | [] => isBlT cd
      | [c'] => chE (x.blk scope) cd c'
      | _ => false) && chE (x.blk scope) el el') = true) : kk = 0 ∧ LcOk EC C X W src tg cd el own el' t it ifs scope := by
  simp only [Bool.and_eq_true, decide_eq_true_eq] at h
  obtain ⟨⟨⟨⟨⟨⟨k0, q0⟩, q1⟩, q2⟩, q3⟩, q4⟩, q5⟩ := h
  have ok := c.blkOk q0
  obtain ⟨p1, i1⟩ := h1 X W x t it c q1
  refine ⟨k0, i1, ok, fun s H A cl fp => (h2 _ _ _ t (c.blk ok s H A cl fp) q2).2, fun s H A cl fp => ?_, fun s H A cl fp => pe_frz (h4 _ _ _ el' (c.blk ok s H A cl fp) q5).2.1, plain_fold p1 X.env, fun j hj => ?_⟩
  · split at q4
    · have e : cd = .bl true := by
        unfold isBlT at q4
        split at q4
        · rfl
        · cases q4
      subst e
      refine ptsW pts_nil fun σ H Q ⟨F, s', k', w⟩ => ?_
      have w : ∀ H', AftB X.K F s' σ H s' H' → Q true H' := w
      exact w H ⟨k', Fr.refl⟩
    · exact pts_one (h3 _ _ _ _ (c.blk ok s H A cl fp) q4).2.2
    · cases q4
  · have := List.all_eq_true.mp q3 j hj
    simpa using this
theorem s_lc {src : Src} {tg : Tg} {cd el : Ex} {own : List Nat} (h1 : GoodS EC C k src) (h2 : GoodT EC C k tg) (h3 : GoodE EC C k cd) (h4 : GoodE EC C k el) : GoodE EC C k (.lc src tg cd el own) := fun X W x a c h => by
  unfold chE at h
  split at h
  · rename_i el' t it ifs kk scope pos
    obtain ⟨rfl, P⟩ := lc_parts (own := own) (el' := el') (t := t) (it := it) (ifs := ifs) (scope := scope) (kk := kk) h1 h2 h3 h4 c h
    have z := E_lc (EC := EC) (W := W) (pos := pos) c.calm c.nd P.hi P.ok P.hg P.ht P.he P.hs P.sub
    exact ⟨rfl, z, pt_plain z fun _ => rfl⟩
  · cases h
theorem s_lcl {tg : Tg} {cd el : Ex} {i : Nat} {own : List Nat} (h1 : GoodS EC C k (.seq (.var i))) (h2 : GoodT EC C k tg) (h3 : GoodE EC C k cd) (h4 : GoodE EC C k el) : GoodE EC C k (.lcl i tg cd el own) := fun X W x a c h => by
  unfold chE at h
  split at h
  · rename_i el' t it ifs kk scope pos
    cases it with
    | Name n p1 =>
      have hn : x.var i n = true := by
        simp only [Bool.and_eq_true] at h
        exact h.1.1.1.1.2
      have e1 : chS x (.seq (.var i)) t (.Name n p1) = x.var i n := by
        unfold chS chE
        rfl
      obtain ⟨rfl, P⟩ := lc_parts (own := own) (el' := el') (t := t) (it := .Name n p1) (ifs := ifs) (scope := scope) (kk := kk) h1 h2 h3 h4 c (by rw [e1]; exact h)
      have z := E_lcl (EC := EC) (W := W) (pos := pos) c.calm c.nd (c.name (p := p1) hn) P.ok P.hg P.ht P.he P.hs P.sub
      exact ⟨rfl, z, pt_plain z fun _ => rfl⟩
    | _ =>
      simp only [Bool.and_eq_true, Bool.false_eq_true, and_false, false_and] at h
  · cases h
/-! ### lists -/
theorem s_nil : GoodEs EC C k .nil := fun X W x l c h => by
  unfold chEs at h
  split at h
  · refine ⟨rfl, A_nil, O_nil, fun bs => ?_, trivial, fun a e => (nomatch e), fun a r pos e => (nomatch e), fun a r pos e => (nomatch e)⟩
    cases bs with
    | nil => exact S_nil
    | cons b bs => exact ⟨fun pos pins s σ H Q I ⟨F, t, kk, w⟩ => by exact (show False from w).elim⟩
  · cases h
theorem s_cons {e1 : Ex} {xs : Exs} (h1 : GoodE EC C k e1) (h2 : GoodEs EC C k xs) : GoodEs EC C k (.cons e1 xs) := fun X W x l c h => by
  unfold chEs at h
  split at h
  · rename_i e es
    rw [Bool.and_eq_true] at h
    obtain ⟨p1, v1, t1⟩ := h1 X W x e c h.1
    have es2 := h2 X W x es c h.2
    have n1 := plain_star p1
    have nx : es = [] → xs = .nil := fun z => by
      subst z
      cases xs with
      | nil => rfl
      | cons a b =>
        have q := h.2
        unfold chEs at q
        cases q
    refine ⟨by rw [List.all_cons, n1, es2.pl] <;> rfl, A_cons v1 es2.ds n1, O_cons (opnd_ok h1 c h.1) es2.os n1, fun bs => ?_, ⟨v1, es2.pw⟩, fun a z => ?_, fun a r pos z => ?_, fun a r pos z => ?_⟩
    · cases bs with
      | nil => exact ⟨fun pos pins s σ H Q I ⟨F, t, kk, w⟩ => by exact (show False from w).elim⟩
      | cons b bs => exact S_cons (arg_ok h1 c h.1 b) (es2.as bs) n1
    · cases z
      rw [evT]
      exact v1
    · cases es with
      | nil =>
        cases nx rfl
        exact ⟨E_and1 v1, P_and1 t1⟩
      | cons b rest =>
        obtain ⟨v2, t2⟩ := es2.an b rest pos rfl
        exact ⟨E_and v1 v2, P_and t1 t2⟩
    · cases es with
      | nil =>
        cases nx rfl
        exact ⟨E_or1 v1, P_or1 t1⟩
      | cons b rest =>
        obtain ⟨v2, t2⟩ := es2.or b rest pos rfl
        exact ⟨E_or v1 v2, P_or t1 t2⟩
  · cases h
/-! ### what is walked -/
theorem w_seq {e1 : Ex} (h1 : GoodE EC C k e1) : GoodS EC C k (.seq e1) := fun X W x t a c h => by
  unfold chS at h
  obtain ⟨p1, v1, _⟩ := h1 X W x a c h
  exact ⟨p1, W_seq v1⟩
theorem w_zip {e1 e2 : Ex} (h1 : GoodE EC C k e1) (h2 : GoodE EC C k e2) : GoodS EC C k (.zip e1 e2) := fun X W x t a c h => by
  unfold chS at h
  split at h
  · simp only [Bool.and_eq_true, decide_eq_true_eq] at h
    obtain ⟨⟨⟨⟨n1, n2⟩, n3⟩, q1⟩, q2⟩ := h
    cases kw_nil n1
    obtain ⟨g1, g2⟩ := c.bl n3
    obtain ⟨p1, v1, _⟩ := h1 X W x _ c q1
    obtain ⟨p2, v2, _⟩ := h2 X W x _ c q2
    exact ⟨rfl, W_zip n2 g1 g2 v1 v2 (plain_star p1) (plain_star p2)⟩
  · cases h
theorem w_rvd {e1 : Ex} (h1 : GoodE EC C k e1) : GoodS EC C k (.rvd e1) := fun X W x t a c h => by
  unfold chS at h
  split at h
  · simp only [Bool.and_eq_true, decide_eq_true_eq] at h
    obtain ⟨⟨⟨n1, n2⟩, n3⟩, q1⟩ := h
    cases kw_nil n1
    obtain ⟨g1, g2⟩ := c.bl n3
    obtain ⟨p1, v1, _⟩ := h1 X W x _ c q1
    exact ⟨rfl, W_rvd n2 g1 g2 v1 (plain_star p1)⟩
  · cases h
theorem W_enu {elts : List Expr} {kk : Nat} {tp : Pos} {m : M Sl} (hn : n = "enumerate") (hg : Gl X n) (hm : X.mg n = none) (h : PE X a (tE X.K EC W m)) (n1 : noStar a = true) :
    PI X (.Tuple elts kk tp) (.Call (.Name n p) [a] [] pos) (tSr X.K EC W ((frz m).bind fun x => lift (enuD x))) := by
  subst hn
  refine piW (pi_enuA hg hm (pa_cons (pe_frz h) pa_nil (star_cons n1 _)) (star_cons n1 _)) fun σ H R ⟨F, s, k, w⟩ => ⟨F, s, k, w.bind.mono fun d s1 hd v H1 ad => ?_⟩
  obtain ⟨r, e, hd⟩ := hd.lift
  cases d with
  | list xs =>
    cases (show some (xs.zipIdx.map fun p => PyData.tuple [.int (p.2 : Int), p.1]) = some r from e)
    cases ad.rp with
    | lst q1 q2 => exact ⟨_, _, rfl, .inl ⟨(hid_le.rdK q1).sqL, hd _ _ ad.ok ad.fr (J_enu q1 q2)⟩⟩
  | tuple xs =>
    cases (show some (xs.zipIdx.map fun p => PyData.tuple [.int (p.2 : Int), p.1]) = some r from e)
    cases ad.rp with
    | tup q1 q2 => exact ⟨_, _, rfl, .inr ⟨hid_le.sqT q1, hd _ _ ad.ok ad.fr (J_enuT q1 q2)⟩⟩
  | _ => cases e
theorem w_enu {e1 : Ex} (h1 : GoodE EC C k e1) : GoodS EC C k (.enu e1) := fun X W x t a c h => by
  unfold chS at h
  split at h
  · simp only [Bool.and_eq_true, decide_eq_true_eq] at h
    obtain ⟨⟨⟨n1, n2⟩, n3⟩, q1⟩ := h
    cases kw_nil n1
    obtain ⟨g1, g2⟩ := c.bl n3
    obtain ⟨p1, v1, _⟩ := h1 X W x _ c q1
    exact ⟨rfl, W_enu n2 g1 g2 v1 (plain_star p1)⟩
  · cases h
theorem w_rng {xs : Exs} (h1 : ∀ e, e = xs → True) (g : ∀ e es, xs = .cons e es → GoodE EC C k e) (g2 : ∀ e e2 es, xs = .cons e (.cons e2 es) → GoodE EC C k e2) : GoodS EC C k (.rng xs) := fun X W x t a c h => by
  unfold chS at h
  split at h
  · rename_i n p l kw p2
    simp only [Bool.and_eq_true, decide_eq_true_eq] at h
    obtain ⟨⟨⟨⟨n1, n2⟩, n3⟩, q⟩, hl⟩ := h
    cases kw_nil n1
    obtain ⟨g1, g2'⟩ := c.bl n3
    refine ⟨rfl, ?_⟩
    match l, xs, q, hl with
    | [], xs, q, hl => exact absurd hl (by decide)
    | a :: l, .nil, q, hl => unfold chEs at q; cases q
    | [a], .cons e .nil, q, hl =>
      unfold chEs at q
      rw [Bool.and_eq_true] at q
      obtain ⟨p1, v1, _⟩ := g e .nil rfl X W x a c q.1
      exact W_rng1 n2 g1 g2' v1 (plain_star p1)
    | [a], .cons e (.cons e2 es), q, hl =>
      unfold chEs at q
      rw [Bool.and_eq_true] at q
      have q := q.2
      unfold chEs at q
      cases q
    | [a, b], .cons e .nil, q, hl =>
      unfold chEs at q
      rw [Bool.and_eq_true] at q
      have q := q.2
      unfold chEs at q
      cases q
    | [a, b], .cons e (.cons e2 .nil), q, hl =>
      unfold chEs at q
      rw [Bool.and_eq_true] at q
      obtain ⟨p1, v1, _⟩ := g e _ rfl X W x a c q.1
      have q := q.2
      unfold chEs at q
      rw [Bool.and_eq_true] at q
      obtain ⟨p2, v2, _⟩ := g2 e e2 _ rfl X W x b c q.1
      exact W_rng2 n2 g1 g2' v1 v2 (plain_star p1) (plain_star p2)
    | [a, b], .cons e (.cons e2 (.cons e3 es)), q, hl =>
      unfold chEs at q
      rw [Bool.and_eq_true] at q
      have q := q.2
      unfold chEs at q
      rw [Bool.and_eq_true] at q
      have q := q.2
      unfold chEs at q
      cases q
    | a :: b :: d :: l, xs, q, hl => exact absurd hl (by simp)
  · cases h
/-! ### the whole -/
mutual
theorem sndE (EC : Nat → Addr) (C : Cal) (k : Nat) : ∀ e : Ex, GoodE EC C k e
  | .var _ => s_var
  | .int _ => s_int
  | .str _ => s_str
  | .bl _ => s_bl
  | .non => s_non
  | .glo _ => s_glo
  | .bin _ a b => s_bin (sndE EC C k a) (sndE EC C k b)
  | .neg a => s_neg (sndE EC C k a)
  | .cmp _ a b => s_cmp (sndE EC C k a) (sndE EC C k b)
  | .chain _ _ a b c => s_chain (sndE EC C k a) (sndE EC C k b) (sndE EC C k c)
  | .and es => s_and (sndEs EC C k es)
  | .or es => s_or (sndEs EC C k es)
  | .orv a b => s_orv (sndE EC C k a) (sndE EC C k b)
  | .not a => s_not (sndE EC C k a)
  | .ife a b c => s_ife (sndE EC C k a) (sndE EC C k b) (sndE EC C k c)
  | .ix a b => s_ix (sndE EC C k a) (sndE EC C k b)
  | .dix a b => s_dix (sndE EC C k a) (sndE EC C k b)
  | .dget _ _ _ => bad_ok fun _ _ => by unfold chE; rfl
  | .cget _ _ e => s_cget (sndE EC C k e)
  | .sl a b c => s_sl (sndE EC C k a) (sndE EC C k b) (sndE EC C k c)
  | .rev a => s_rev (sndE EC C k a)
  | .tup es => s_tup (sndEs EC C k es)
  | .lst es => s_lst (sndEs EC C k es)
  | .dic _ vs => s_dic (sndEs EC C k vs)
  | .call _ es => s_call (sndEs EC C k es)
  | .bf _ es => s_bf (sndEs EC C k es)
  | .isi a _ => s_isi (sndE EC C k a)
  | .lc s t c e _ => s_lc (sndS EC C k s) (sndT EC C k t) (sndE EC C k c) (sndE EC C k e)
  | .lcl i t c e _ => s_lcl (w_seq s_var) (sndT EC C k t) (sndE EC C k c) (sndE EC C k e)
  | .pop _ e => s_pop (sndE EC C k e)
  | .app _ e => s_app (sndE EC C k e)
  | .ext _ e => s_ext (sndE EC C k e)
  | .ins _ a b => s_ins (sndE EC C k a) (sndE EC C k b)
  | .rfd _ _ es _ => s_rfd fun j => sndEs EC C j es
theorem sndEs (EC : Nat → Addr) (C : Cal) (k : Nat) : ∀ es : Exs, GoodEs EC C k es
  | .nil => s_nil
  | .cons e es => s_cons (sndE EC C k e) (sndEs EC C k es)
theorem sndS (EC : Nat → Addr) (C : Cal) (k : Nat) : ∀ s : Src, GoodS EC C k s
  | .seq e => w_seq (sndE EC C k e)
  | .rng .nil => w_rng (fun _ _ => trivial) (fun _ _ z => nomatch z) (fun _ _ _ z => nomatch z)
  | .rng (.cons e .nil) => w_rng (fun _ _ => trivial) (fun _ _ z => by cases z; exact sndE EC C k e) (fun _ _ _ z => nomatch z)
  | .rng (.cons e (.cons e2 _)) => w_rng (fun _ _ => trivial) (fun _ _ z => by cases z; exact sndE EC C k e) (fun _ _ _ z => by cases z; exact sndE EC C k e2)
  | .zip a b => w_zip (sndE EC C k a) (sndE EC C k b)
  | .enu a => w_enu (sndE EC C k a)
  | .rvd a => w_rvd (sndE EC C k a)
theorem sndT (EC : Nat → Addr) (C : Cal) (k : Nat) : ∀ t : Tg, GoodT EC C k t
  | .name _ => g_name
  | .tup ts => g_tup (sndTs EC C k ts)
theorem sndTs (EC : Nat → Addr) (C : Cal) (k : Nat) : ∀ ts : Tgs, GoodTs EC C k ts
  | .nil => g_nil
  | .cons t ts => g_cons (sndT EC C k t) (sndTs EC C k ts)
end
end
end Hg
set_option Elab.async false
set_option linter.all false
set_option maxRecDepth 100000
set_option maxHeartbeats 400000
/-! One rule a statement. -/
namespace Hg
open PySem PySem.Spec PyProof.Rows L2 RZ RT
/-! ### what the compiler's order of stores asks -/
def swF (sc : Scope) (value : Expr) (target : Option Expr) : Option Bool := match (match value with
    | .ListComp _ _ s _ | .SetComp _ _ s _ | .DictComp _ _ _ s _ => some s
    | _ => none) with
  | none => some false
  | some scope => match target with
    | none => none
    | some (.Name t pos) => some ((sc.names.lookup t == some .local) && pos.line == value.pos.line && !(scope.names.any fun (n, k) => n == t && (k == .local || k == .cell)))
    | some _ => some false
theorem blockKind_fn {env : Env} (hk : env.scope.kind = .function) : env.blockKind = .function := by
  unfold Env.blockKind
  rw [hk]
  rfl
theorem sw_of {env : Env} {value : Expr} {target : Option Expr} {l : Nat} {b : Bool} (hk : env.scope.kind = .function) (h : swF env.scope value target = some b) : swapsWith value target l env = pure b := by
  have hb := blockKind_fn hk
  unfold swF at h
  unfold swapsWith
  cases value <;> first
    | (cases h; rfl)
    | (cases target with
      | none => cases h
      | some t => cases t <;> first
        | (cases h; rfl)
        | (simp only [Option.some.injEq] at h
           subst h
           simp only [hb]
           rfl))
def isStar : Expr → Bool
  | .Starred .. => true
  | _ => false
def swSt (sc : Scope) (targets : List Expr) (value : Expr) : Option (Option (List Str)) := match targets, value with
  | [.Tuple ts _ _], .Tuple vs _ _ =>
    if !(ts.length == 2 || ts.length == 3) || vs.length != ts.length then some none
    else if vs.any isStar then some none
    else
      let line := (ts.head?.map (·.pos.line)).getD 0
      let names := ts.filterMap fun
        | .Name id pos => if sc.names.lookup id == some .local && pos.line == line then some id else none
        | _ => none
      if names.length != ts.length || names.eraseDups.length != names.length then some none
      else if vs.all (foldedForSure 8) then some none
      else if vs.all (constantsAlone 8) then none
      else some (some names)
  | [.List _ _], _ => none
  | [.Tuple _ _ _], _ => some none
  | [.Name _ _], _ => some none
  | [.Subscript _ _ _], _ => some none
  | _, _ => none
theorem swSt_of {env : Env} {tg value : Expr} {r : Option (List Str)} (hk : env.scope.kind = .function) (h : swSt env.scope [tg] value = some r) : swappedStores [tg] value env = pure r := by
  have hb := blockKind_fn hk
  unfold swSt at h
  split at h
  · rename_i ts k1 p1 vs k2 p2 heq
    cases heq
    unfold swappedStores
    dsimp only
    have e1 : (env.blockKind != ScopeKind.function) = false := by rw [hb]; rfl
    rw [e1, Bool.or_false]
    split at h
    · rename_i c
      cases h
      rw [if_pos c] <;> rfl
    · rename_i c
      rw [if_neg c]
      have e2 : (vs.any fun | .Starred .. => true | _ => false) = vs.any isStar := rfl
      split at h
      · rename_i c2
        cases h
        show (if vs.any isStar = true then _ else _) = _
        rw [if_pos c2] <;> rfl
      · rename_i c2
        show (if vs.any isStar = true then _ else _) = _
        rw [if_neg c2]
        dsimp only at h
        split at h
        · rename_i c3
          cases h
          exact if_pos c3
        · rename_i c3
          refine (if_neg c3).trans ?_
          split at h
          · rename_i c4
            cases h
            rw [if_pos c4] <;> rfl
          · rename_i c4
            rw [if_neg c4]
            split at h
            · cases h
            · rename_i c5
              rw [if_neg c5]
              cases h
              rfl
  · cases h
  · rename_i v1 t1 v2 e1 k1 p1 h0 heq
    cases h0
    cases h
    cases v1 <;> first
      | rfl
      | exact (heq _ _ _ rfl).elim
  · rename_i heq
    cases heq
    cases h
    rfl
  · rename_i heq
    cases heq
    cases h
    rfl
  · cases h
section
variable {X : Cx} {EC : Nat → Addr} {W : WX} {P : List Nat} {a b e : Expr} {st : Stmt} {sts : List Stmt} {m ma mb mc : M Sl} {pos p1 p2 : Pos} {n : Str} {i : Nat}
theorem psW {t t' : TS} (h : PS X st t) (w : ∀ D σ H, t' D σ H → t D σ H) : PS X st t' := ⟨fun pins s σ H D I q => h.run pins s σ H D I (w _ _ _ q)⟩
theorem pssW {t t' : TS} (h : PSs X sts t) (w : ∀ D σ H, t' D σ H → t D σ H) : PSs X sts t' := ⟨fun pins s σ H D I q => h.run pins s σ H D I (w _ _ _ q)⟩
theorem asg_use {K : PySem.W.Frag} {F : NS} {s s1 : S} {σ : L2.St} {H H1 : Hp} {D : Ends} {r : Sl} {v : V} (k : StOk K F s σ H) (a : AftS K F s σ H r s1 v H1) (w : WpS K EC W P F s σ H (nx (asgM P i r) s1) (AftF K P F s σ H D)) : D.nx (σ.set i (some v)) H1 := by
  by_cases hp : i ∈ P
  · have e : asgM P i r = bad := if_pos hp
    rw [e] at w
    exact (show False from w).elim
  · have e : asgM P i r = setS i r := if_neg hp
    rw [e] at w
    by_cases hi : i < s1.length
    · have e2 : setS i r s1 = .ok () (s1.set i r) := if_pos hi
      have w : WpS K EC W P F s σ H ((setS i r s1).bind fun _ s' => R.ok Fl.nx s') (AftF K P F s σ H D) := w
      rw [e2] at w
      exact w _ _ (k.putS a hi hp)
    · have e2 : setS i r s1 = .bad := if_neg hi
      have w : WpS K EC W P F s σ H ((setS i r s1).bind fun _ s' => R.ok Fl.nx s') (AftF K P F s σ H D) := w
      rw [e2] at w
      exact w.elim
theorem S_set (hN : X.N.Nodup) (hi : X.N[i]? = some n) (hx : Loc X.env.scope n) (he : PE X e (tE X.K EC W m)) (hs : swapsWith e (some (.Name n p1)) pos.line X.env = pure false) (hf : X.fn n = true ∨ X.env.scope.names.lookup n = some .local) :
    PS X (.Assign [.Name n p1] e pos) (tS X.K EC W P (m.bind fun r => nx (asgM P i r))) := psW (ps_set hN hi hx he hs hf) fun D σ H ⟨F, s, k, w⟩ =>
  ⟨F, s, k, w.bind.toE.mono fun r s1 hr v H1 a => asg_use k a hr⟩
theorem S_setLc {elt t it : Expr} {ifs : List Expr} {scope : Scope} {own : List Nat} {tg : Tg} {mt : M Bool} {me : M D} {src : M (List D)} (hc : X.calm = true) (hN : X.N.Nodup) (hi : X.N[i]? = some n) (hyl : X.env.scope.names.lookup n = some .local)
    (hsw : swapsWith (.ListComp elt [⟨t, it, ifs, 0⟩] scope p2) (some (.Name n p1)) pos.line X.env = pure true) (hI : PI X t it (tSr X.K EC W src)) (ok : BlkOk X.N X.env.scope scope (ownP X.N own))
    (hg : ∀ (s : Shared) (H : Hp) (C : Addr) (cl : List (Str × Addr)) (fp : List Addr), PG (X.blk s H scope (compEnvC scope cl C X.env) fp) t (tPut X.K tg))
    (ht : ∀ (s : Shared) (H : Hp) (C : Addr) (cl : List (Str × Addr)) (fp : List Addr), PTs (X.blk s H scope (compEnvC scope cl C X.env) fp) ifs (tBo X.K EC WF mt))
    (he : ∀ (s : Shared) (H : Hp) (C : Addr) (cl : List (Str × Addr)) (fp : List Addr), PE (X.blk s H scope (compEnvC scope cl C X.env) fp) elt (tD X.K EC WF me))
    (hs : ∀ x, foldedSetIterable it X.env x = pure x) (hsub : ∀ j, j ∈ tgIx tg → j ∈ own) :
    PS X (.Assign [.Name n p1] (.ListComp elt [⟨t, it, ifs, 0⟩] scope p2) pos) (tS X.K EC W P ((lcM own (lcTurn tg mt me) src).bind fun r => nx (asgM P i r))) :=
  psW (ps_setLc hc hN hi hyl hsw hI ok hg ht he hs) fun D σ H ⟨F, s, k, w⟩ => T_lc hsub ⟨F, s, k, w.bind.toE.mono fun r s1 hr v H1 a => asg_use k a hr⟩
/-! ### targets never err -/
mutual
theorem putT_err : ∀ (t : Tg) (d : D) (s s' : S) (u : Er), putT t d s ≠ .err u s'
  | .name i, d, s, s', u, h => by
    have h : setS i (.sh d) s = .err u s' := h
    unfold setS at h
    split at h <;> cases h
  | .tup ts, .tuple ds, s, s', u, h => putTs_err ts ds s s' u h
  | .tup ts, .list ds, s, s', u, h => putTs_err ts ds s s' u h
  | .tup ts, .none, s, s', u, h => by cases (show R.bad = .err u s' from h)
  | .tup ts, .bool _, s, s', u, h => by cases (show R.bad = .err u s' from h)
  | .tup ts, .int _, s, s', u, h => by cases (show R.bad = .err u s' from h)
  | .tup ts, .str _, s, s', u, h => by cases (show R.bad = .err u s' from h)
  | .tup ts, .dict _, s, s', u, h => by cases (show R.bad = .err u s' from h)
theorem putTs_err : ∀ (ts : Tgs) (ds : List D) (s s' : S) (u : Er), putTs ts ds s ≠ .err u s'
  | .nil, [], s, s', u, h => by cases (show R.ok () s = .err u s' from h)
  | .nil, _ :: _, s, s', u, h => by cases (show R.bad = .err u s' from h)
  | .cons _ _, [], s, s', u, h => by cases (show R.bad = .err u s' from h)
  | .cons t ts, d :: ds, s, s', u, h => by
    have h : (putT t d s).bind (fun _ s1 => putTs ts ds s1) = .err u s' := h
    cases q : putT t d s with
    | bad => rw [q] at h; cases h
    | err u' s1 => exact putT_err t d s s1 u' q
    | ok a s1 =>
      rw [q] at h
      exact putTs_err ts ds s1 s' u h
end
mutual
theorem okT_ix : ∀ {t : Tg}, okT P t = true → ∀ j, j ∈ tgIx t → j ∉ P
  | .name i, h, j, hj => by
    have h : decide (i ∉ P) = true := h
    rw [List.mem_singleton.mp (show j ∈ [i] from hj)]
    exact of_decide_eq_true h
  | .tup ts, h, j, hj => okTs_ix (ts := ts) h j hj
theorem okTs_ix : ∀ {ts : Tgs}, okTs P ts = true → ∀ j, j ∈ tgsIx ts → j ∉ P
  | .nil, h, j, hj => by cases hj
  | .cons t ts, h, j, hj => by
    have h : (okT P t && okTs P ts) = true := h
    rw [Bool.and_eq_true] at h
    rcases List.mem_append.mp (show j ∈ tgIx t ++ tgsIx ts from hj) with hj | hj
    · exact okT_ix h.1 j hj
    · exact okTs_ix h.2 j hj
end
/-- stores by a target -/
theorem put_use {K : PySem.W.Frag} {F : NS} {s s1 : S} {σ σ0 : L2.St} {H H1 : Hp} {t : Tg} {d : D} {v : V} {α : Type} {f : Unit → M α} {Φ : α → S → Prop} (ho : okT P t = true) (k1 : StOk K F s1 σ H1) (r : Rp K (Hid (Nn F s1 σ) H1) v d)
    (w : WpS K EC W P F s σ0 H (((putT t d).bind f) s1) Φ) : ∃ s2, putT t d s1 = .ok () s2 ∧ WpS K EC W P F s σ0 H (f () s2) Φ ∧ ∀ σ2, AftT K F s1 σ H1 (tgIx t) s2 σ2 H1 → AftN K P F s1 σ H1 s2 σ2 H1 := by
  have w := w.bind
  cases q : putT t d s1 with
  | bad => rw [q] at w; exact w.elim
  | err u s' => exact absurd q (putT_err t d s1 s' u)
  | ok a s2 =>
    rw [q] at w
    exact ⟨s2, rfl, w, fun σ2 at_ => ⟨at_.ok, at_.fr, at_.len, fun j hj => at_.out j fun z => okT_ix ho j z hj⟩⟩
theorem S_tup {t : Tg} {tg : Expr} (he : PE X e (tE X.K EC W m)) (hg : PG X tg (tPut X.K t)) (hs : swapsWithSole [tg] e pos.line X.env = pure false) (hw : swappedStores [tg] e X.env = pure none) (h1 : (assignEach [tg] X.env).map (·.2) = [assign tg X.env]) :
    PS X (.Assign [tg] e pos) (tS X.K EC W P (if okT P t then (frz m).bind fun d => nx (putT t d) else bad)) := psW (ps_asg (pe_frz he) hg hs hw h1) fun D σ H ⟨F, s, k, w⟩ => by
  by_cases ho : okT P t = true
  · rw [if_pos ho] at w
    refine ⟨F, s, k, w.bind.toE.mono fun d s1 hd v H1 a => ?_⟩
    have hd : WpS X.K EC W P F s σ H (((putT t d).bind fun _ => M.pure Fl.nx) s1) (AftF X.K P F s σ H D) := hd
    obtain ⟨s2, e1, w2, hT⟩ := put_use ho a.ok a.rp hd
    exact ⟨F, s1, d, a.ok, a.rp, s2, e1, fun σ' at_ => w2 _ _ ((AftN.of a.ok a.fr).trans (hT σ' at_))⟩
  · rw [if_neg ho] at w
    exact w.elim
theorem Wp.unbind {α β : Type} {K : PySem.W.Frag} {F : NS} {s s1 : S} {σ : L2.St} {H : Hp} {m : M α} {f : α → M β} {Φ : β → S → Prop} (h : Wp K EC W F s σ H (m s1) fun a s2 => Wp K EC W F s σ H (f a s2) Φ) : Wp K EC W F s σ H ((m.bind f) s1) Φ := by
  have e : (m.bind f) s1 = (m s1).bind fun a s' => f a s' := rfl
  rw [e]
  cases q : m s1 with
  | bad => rw [q] at h; exact h
  | ok a s' => rw [q] at h; exact h
  | err e s' => rw [q] at h; exact h
/-- x, y = a, b with plain names -/
theorem S_par {j : Nat} {y : Str} {pt pt2 : Pos} {kt k2} (hc : X.calm = true) (hN : X.N.Nodup) (hi : X.N[i]? = some n) (hj : X.N[j]? = some y) (hij : i ≠ j) (hx : X.env.scope.names.lookup n = some .local) (hy : X.env.scope.names.lookup y = some .local)
    (ha : PE X a (tE X.K EC W ma)) (hb : PE X b (tE X.K EC W mb)) (na : noStar a = true) (nb : noStar b = true) (hw : swappedStores [.Tuple [.Name n p1, .Name y p2] kt pt] (.Tuple [a, b] k2 pt2) X.env = pure (some [n, y])) :
    PS X (.Assign [.Tuple [.Name n p1, .Name y p2] kt pt] (.Tuple [a, b] k2 pt2) pos) (tS X.K EC W P (if i ∈ P ∨ j ∈ P then bad else (frz ma).bind fun x => (frz mb).bind fun y => nx ((setS i (.sh x)).bind fun _ => setS j (.sh y)))) :=
  psW (ps_par hc hN hi hj hij hx hy (A_cons ha (A_cons hb A_nil nb) na) hw) fun D σ H ⟨F, s, k, w⟩ => by
    by_cases hp : i ∈ P ∨ j ∈ P
    · rw [if_pos hp] at w
      exact w.elim
    · rw [if_neg hp] at w
      rw [not_or] at hp
      refine ⟨F, s, k, Wp.unbind (w.bind.toE.mono fun x s1 hx1 => Wp.unbind (Wp.unbind (hx1.bind.toE.mono fun y s2 hy2 => ?_)))⟩
      show ∀ vs H', AftDs X.K F s σ H [x, y] s2 vs H' → _
      rintro vs H' ⟨k2, f2, r⟩
      cases r with
      | @cons v vs1 _ _ r1 r =>
        cases r with
        | @cons v2 vs2 _ _ r2 r =>
          cases r
          refine ⟨v, v2, rfl, ?_⟩
          have hy2 : WpS X.K EC W P F s σ H (((setS i (.sh x) s2).bind fun _ s' => setS j (.sh y) s').bind fun _ s' => R.ok Fl.nx s') (AftF X.K P F s σ H D) := hy2
          by_cases hi2 : i < s2.length
          · have e2 : setS i (.sh x) s2 = .ok () (s2.set i (.sh x)) := if_pos hi2
            rw [e2] at hy2
            by_cases hj2 : j < (s2.set i (.sh x)).length
            · have e3 : setS j (.sh y) (s2.set i (.sh x)) = .ok () ((s2.set i (.sh x)).set j (.sh y)) := if_pos hj2
              have hy2 : WpS X.K EC W P F s σ H ((setS j (.sh y) (s2.set i (.sh x))).bind fun _ s' => R.ok Fl.nx s') (AftF X.K P F s σ H D) := hy2
              rw [e3] at hy2
              obtain ⟨k3, f3⟩ := k2.put hi2 r1
              obtain ⟨k4, f4⟩ := k3.put hj2 (Rp.mono f3.le _ _ r2)
              refine hy2 _ _ ⟨k4, (f2.trans f3).trans f4, by rw [List.length_set, List.length_set], fun l hl => ?_⟩
              rw [List.getElem?_set_ne fun (z : j = l) => hp.2 (by rw [z]; exact hl), List.getElem?_set_ne fun (z : i = l) => hp.1 (by rw [z]; exact hl)]
            · have e3 : setS j (.sh y) (s2.set i (.sh x)) = .bad := if_neg hj2
              have hy2 : WpS X.K EC W P F s σ H ((setS j (.sh y) (s2.set i (.sh x))).bind fun _ s' => R.ok Fl.nx s') (AftF X.K P F s σ H D) := hy2
              rw [e3] at hy2
              exact hy2.elim
          · have e2 : setS i (.sh x) s2 = .bad := if_neg hi2
            rw [e2] at hy2
            exact hy2.elim
theorem set_step {α : Type} {K : PySem.W.Frag} {F : NS} {s s2 : S} {σ : L2.St} {H : Hp} {x : Sl} {f : Unit → M α} {Φ : α → S → Prop} (w : WpS K EC W P F s σ H (((setS i x).bind f) s2) Φ) : i < s2.length ∧ WpS K EC W P F s σ H (f () (s2.set i x)) Φ := by
  have w : WpS K EC W P F s σ H ((setS i x s2).bind fun a s' => f a s') Φ := w
  unfold setS at w
  by_cases h : i < s2.length
  · rw [if_pos h] at w
    exact ⟨h, w⟩
  · rw [if_neg h] at w
    exact w.elim
/-- x, y, z = a, b, c with plain names -/
theorem S_par3 {j l : Nat} {y z : Str} {c : Expr} {p3 pt pt2 : Pos} {kt k2} (hc : X.calm = true) (hN : X.N.Nodup) (hi : X.N[i]? = some n) (hj : X.N[j]? = some y) (hl : X.N[l]? = some z) (hij : i ≠ j) (hil : i ≠ l) (hjl : j ≠ l) (hx : X.env.scope.names.lookup n = some .local) (hy : X.env.scope.names.lookup y = some .local)
    (hz : X.env.scope.names.lookup z = some .local) (ha : PE X a (tE X.K EC W ma)) (hb : PE X b (tE X.K EC W mb)) (hd : PE X c (tE X.K EC W mc)) (na : noStar a = true) (nb : noStar b = true) (nc : noStar c = true)
    (hw : swappedStores [.Tuple [.Name n p1, .Name y p2, .Name z p3] kt pt] (.Tuple [a, b, c] k2 pt2) X.env = pure (some [n, y, z])) :
    PS X (.Assign [.Tuple [.Name n p1, .Name y p2, .Name z p3] kt pt] (.Tuple [a, b, c] k2 pt2) pos) (tS X.K EC W P (if i ∈ P ∨ j ∈ P ∨ l ∈ P then bad else (frz ma).bind fun x => (frz mb).bind fun y => (frz mc).bind fun z => nx ((setS i (.sh x)).bind fun _ => (setS j (.sh y)).bind fun _ => setS l (.sh z)))) :=
  psW (ps_par3 hc hN hi hj hl hij hil hjl hx hy hz (A_cons ha (A_cons hb (A_cons hd A_nil nc) nb) na) hw) fun D σ H ⟨F, s, k, w⟩ => by
    by_cases hp : i ∈ P ∨ j ∈ P ∨ l ∈ P
    · rw [if_pos hp] at w
      exact w.elim
    · rw [if_neg hp] at w
      rw [not_or, not_or] at hp
      refine ⟨F, s, k, Wp.unbind (w.bind.toE.mono fun x s1 hx1 => Wp.unbind (Wp.unbind (hx1.bind.toE.mono fun y s2 hy2 => Wp.unbind (Wp.unbind (hy2.bind.toE.mono fun z s3 hz3 => ?_)))))⟩
      show ∀ vs H', AftDs X.K F s σ H [x, y, z] s3 vs H' → _
      rintro vs H' ⟨k2, f2, r⟩
      cases r with
      | @cons v vs1 _ _ r1 r =>
        cases r with
        | @cons v2 vs2 _ _ r2 r =>
          cases r with
          | @cons v3 vs3 _ _ r3 r =>
            cases r
            refine ⟨v, v2, v3, rfl, ?_⟩
            have w3 : WpS X.K EC W P F s σ H (((setS i (.sh x)).bind fun _ => ((setS j (.sh y)).bind fun _ => setS l (.sh z)).bind fun _ => M.pure Fl.nx) s3) (AftF X.K P F s σ H D) := by
              have e : ((setS i (.sh x)).bind fun _ => ((setS j (.sh y)).bind fun _ => setS l (.sh z)).bind fun _ => M.pure Fl.nx) s3 = (nx ((setS i (.sh x)).bind fun _ => (setS j (.sh y)).bind fun _ => setS l (.sh z))) s3 := by
                show ((setS i (.sh x) s3).bind _) = ((setS i (.sh x) s3).bind _).bind _
                cases setS i (.sh x) s3 <;> rfl
              rw [e]
              exact hz3
            obtain ⟨i3, w3⟩ := set_step w3
            have w3 : WpS X.K EC W P F s σ H (((setS j (.sh y)).bind fun _ => (setS l (.sh z)).bind fun _ => M.pure Fl.nx) (s3.set i (.sh x))) (AftF X.K P F s σ H D) := by
              have e : ((setS j (.sh y)).bind fun _ => (setS l (.sh z)).bind fun _ => M.pure Fl.nx) (s3.set i (.sh x)) = (((setS j (.sh y)).bind fun _ => setS l (.sh z)).bind fun _ => M.pure Fl.nx) (s3.set i (.sh x)) := by
                show ((setS j (.sh y) _).bind _) = ((setS j (.sh y) _).bind _).bind _
                cases setS j (.sh y) (s3.set i (.sh x)) <;> rfl
              rw [e]
              exact w3
            obtain ⟨j3, w3⟩ := set_step w3
            obtain ⟨l3, w3⟩ := set_step w3
            obtain ⟨k3, f3⟩ := k2.put i3 r1
            obtain ⟨k4, f4⟩ := k3.put j3 (Rp.mono f3.le _ _ r2)
            obtain ⟨k5, f5⟩ := k4.put l3 (Rp.mono (f3.trans f4).le _ _ r3)
            refine w3 _ _ ⟨k5, ((f2.trans f3).trans f4).trans f5, by rw [List.length_set, List.length_set, List.length_set], fun m hm => ?_⟩
            rw [List.getElem?_set_ne fun (e : l = m) => hp.2.2 (by rw [e]; exact hm), List.getElem?_set_ne fun (e : j = m) => hp.2.1 (by rw [e]; exact hm), List.getElem?_set_ne fun (e : i = m) => hp.1 (by rw [e]; exact hm)]
theorem WpS.ownL {α : Type} {K : PySem.W.Frag} {F : NS} {s s1 : S} {σ : L2.St} {H : Hp} {i : Nat} {f : List D → M α} {Φ : α → S → Prop} (w : WpS K EC W P F s σ H (((ownL i).bind f) s1) Φ) : ∃ xs, s1[i]? = some (.ow (.lst xs)) ∧ WpS K EC W P F s σ H (f xs s1) Φ := by
  have w := w.bind
  unfold Hg.ownL at w
  cases q : s1[i]? with
  | none => rw [q] at w; exact w.elim
  | some z =>
    rw [q] at w
    cases z with
    | un => exact w.elim
    | sh d => exact w.elim
    | ow o =>
      cases o with
      | dic kvs => exact w.elim
      | lst xs => exact ⟨xs, rfl, w⟩
/-- xs[q] = e -/
theorem S_six {ix : Expr} {pp : Pos} {mk : M Sl} (he : PE X e (tE X.K EC W m)) (hv : PE X (.Name n p1) (tVar i)) (hk : PE X ix (tE X.K EC W mk)) (hs : swapsWithSole [.Subscript (.Name n p1) ix pp] e pos.line X.env = pure false) (hw : swappedStores [.Subscript (.Name n p1) ix pp] e X.env = pure none)
    (ha : ∀ v, assign (.Subscript (.Name n p1) ix pp) X.env v = (do
      let ov ← holding [v] (eval (.Name n p1) X.env)
      let iv ← holding [v, ov] (eval ix X.env)
      standAt pp
      holding [v, ov, iv] (setItem ov iv v)
      release [v, ov, iv] [])) :
    PS X (.Assign [.Subscript (.Name n p1) ix pp] e pos) (tS X.K EC W P ((frz m).bind fun d => (ownL i).bind fun _ => (frz mk).bind fun q => nx (sixM i q d))) :=
  psW (ps_asg (pe_frz he) (pg_sub hv (pe_frz hk) set_list ha) hs hw rfl) fun D σ H ⟨F, s, k, w⟩ => ⟨F, s, k, w.bind.toE.mono fun d s1 hd v H1 ad => by
    obtain ⟨xs, e1, hd⟩ := hd.ownL
    obtain ⟨p, ep, _⟩ := ad.ok.ow i _ e1
    refine ⟨.ref p, ep, F, s1, ad.ok, ((hd.on (.of ad.ok ad.fr)).bind.toE).mono fun q s2 hq v2 H2 a2 => ?_⟩
    have hq : WpS X.K EC W P F s1 σ H1 (((ownL i).bind fun xs => nx (sixL i q d xs)) s2) (AftF X.K P F s σ H D) := by
      have z : (nx (sixM i q d)) s2 = ((ownL i).bind fun xs => nx (sixL i q d xs)) s2 := by
        show (((ownL i s2).bind _).bind _) = (ownL i s2).bind _
        cases ownL i s2 <;> rfl
      rw [← z]
      exact hq
    obtain ⟨ys, e2, hq⟩ := hq.ownL
    cases q with
    | int z =>
      have hq : WpS X.K EC W P F s1 σ H1 ((nx (sixJ i d ys (L2.ixN ys.length z))) s2) (AftF X.K P F s σ H D) := hq
      cases hj : L2.ixN ys.length z with
      | none => rw [hj] at hq; exact (show False from hq).elim
      | some j =>
        rw [hj] at hq
        obtain ⟨p', ep', vs, hp, rv⟩ := a2.ok.ow i _ e2
        rw [ep] at ep'
        cases ep'
        cases a2.rp
        obtain ⟨k3, f3⟩ := a2.ok.lset e2 ep (rv.set (Rp.mono a2.fr.le _ _ ad.rp) j)
        refine ⟨p, vs, z, j, rfl, rfl, hp, by rw [rv.length]; exact hj, ?_⟩
        exact hq _ _ ((AftN.of ad.ok ad.fr).trans ((AftN.of a2.ok a2.fr).trans (AftN.of k3 f3)))
    | _ => exact (show False from hq).elim⟩
/-! ### the rest -/
theorem S_exp (he : PE X e (tE X.K EC W m)) (hs : swapsWith e none pos.line X.env = pure false) : PS X (.Expr e pos) (tS X.K EC W P (m.bind fun _ => M.pure .nx)) := psW (ps_expr he hs) fun D σ H ⟨F, s, k, w⟩ => ⟨F, s, k, w.bind.toE.mono fun r s1 hr v H1 a => by
  have hr : ∀ σ' H', AftN X.K P F s σ H s1 σ' H' → D.nx σ' H' := hr
  cases r with
  | un => exact a.elim
  | sh d => exact hr _ _ (.of (AftD.ok a) (AftD.fr a))
  | ow o =>
    obtain ⟨p, rfl, q⟩ := a
    have z := q.aftD
    exact hr _ _ (.of z.ok z.fr)⟩
theorem ret_use {K : PySem.W.Frag} {F : NS} {s s1 : S} {σ : L2.St} {H H1 : Hp} {D : Ends} {r : Sl} {v : V} (k : StOk K F s σ H) (a : AftS K F s σ H r s1 v H1) (w : AftF K P F s σ H D (.rt r) s1) : D.rt v H1 := w σ H s v H1 (.refl k) a
theorem S_ret (he : PE X e (tE X.K EC W m)) : PS X (.Return (some e) pos) (tS X.K EC W P (m.bind fun r => M.pure (.rt r))) := psW (ps_ret he) fun D σ H ⟨F, s, k, w⟩ => ⟨F, s, k, w.bind.toE.mono fun r s1 hr v H1 a => ret_use k a hr⟩
theorem S_retV (hv : PE X (.Name n p1) (tVar i)) : PS X (.Return (some (.Name n p1)) pos) (tS X.K EC W P ((retM P (.var i) m).bind fun r => M.pure (.rt r))) := psW (ps_ret hv) fun D σ H ⟨F, s, k, w⟩ => by
  have w := w.bind
  have e : retM P (.var i) m s = (match s[i]? with
    | some (.ow o) => if i ∈ P then R.bad else .ok (.ow o) (s.set i .un)
    | some (.sh d) => .ok (.sh d) s
    | _ => .bad) := rfl
  rw [e] at w
  cases q : s[i]? with
  | none => rw [q] at w; exact w.elim
  | some z =>
    rw [q] at w
    cases z with
    | un => exact w.elim
    | sh d =>
      obtain ⟨v, e1, a⟩ := k.get q
      have w : AftF X.K P F s σ H D (.rt (.sh d)) s := w
      exact ⟨v, e1, ret_use k (r := .sh d) a w⟩
    | ow o =>
      by_cases hp : i ∈ P
      · have w : WpS X.K EC W P F s σ H (if i ∈ P then R.bad else R.ok (Sl.ow o) (s.set i .un)) _ := w
        rw [if_pos hp] at w
        exact w.elim
      · have w : WpS X.K EC W P F s σ H (if i ∈ P then R.bad else R.ok (Sl.ow o) (s.set i .un)) _ := w
        rw [if_neg hp] at w
        obtain ⟨p, e1, _⟩ := k.ow i o q
        have w : AftF X.K P F s σ H D (.rt (.ow o)) (s.set i .un) := w
        exact ⟨_, e1, ret_use k (r := .ow o) ⟨p, rfl, k.leave q e1⟩ w⟩
theorem S_retN : PS X (.Return none pos) (tS X.K EC W P (M.pure (.rt (.sh .none)))) := psW ps_retN fun D σ H ⟨F, s, k, w⟩ => by
  have w : AftF X.K P F s σ H D (.rt (.sh .none)) s := w
  exact ret_use k (r := .sh .none) ⟨k, Fr.refl, .non⟩ w
theorem S_ite {ta tb : M Fl} {sa sb : List Stmt} {c : Expr} (hc : PT X c (tBo X.K EC W (testM mc))) (ha : PSs X sa (tS X.K EC W P ta)) (hb : PSs X sb (tS X.K EC W P tb)) : PS X (.If c sa sb pos) (tS X.K EC W P ((testM mc).bind fun k => if k then ta else tb)) :=
  psW (ps_if hc ha hb) fun D σ H ⟨F, s, k, w⟩ => ⟨F, s, k, w.bind.toE.mono fun q s1 hq H1 aq => by
    have hq := (hq.on (.of aq.ok aq.fr)).mono fun f s' z => AftF.on (.of aq.ok aq.fr) z
    cases q with
    | true => exact ⟨F, s1, aq.ok, hq⟩
    | false => exact ⟨F, s1, aq.ok, hq⟩⟩
theorem S_pass : PSs X [] (tS X.K EC W P (M.pure .nx)) := pssW pss_nil fun D σ H ⟨F, s, k, w⟩ => by
  have w : ∀ σ' H', AftN X.K P F s σ H s σ' H' → D.nx σ' H' := w
  exact w σ H (.refl k)
theorem S_seq {t u : M Fl} (h1 : PS X st (tS X.K EC W P t)) (h2 : PSs X sts (tS X.K EC W P u)) : PSs X (st :: sts) (tS X.K EC W P (t.bind fun f => match f with
    | .nx => u
    | .rt r => M.pure (.rt r))) := pssW (pss_cons h1 h2) fun D σ H ⟨F, s, k, w⟩ => ⟨F, s, k, w.bind.mono fun f s1 hf => by
  cases f with
  | nx => exact fun σ' H' a => ⟨F, s1, a.ok, (hf.on a).mono fun f s' z => AftF.on a z⟩
  | rt r => exact fun σ' H1 s1' v H' a b => (show AftF X.K P F s σ H D (.rt r) s1 from hf) σ' H1 s1' v H' a b⟩
theorem S_whl {tb : M Fl} {body : List Stmt} {c : Expr} (hp : PassesOwn (model X.prog X.w) X.A X.env X.xe) (hc : PT X c (tBo X.K EC W (testM mc))) (hb : PSs X body (tS X.K EC W P tb)) : PS X (.While c body [] pos) (tS X.K EC W P (whM (testM mc) tb)) :=
  psW (ps_while hp hc hb) fun D σ H ⟨F, s, k, w⟩ => by
    unfold whM at w
    by_cases h : ∃ n, ¬ (whN (testM mc) tb n s).isBad
    · rw [dif_pos h] at w
      refine ⟨fun m σ1 H1 => ∃ s1, AftN X.K P F s σ H s1 σ1 H1 ∧ WpS X.K EC W P F s σ H (whN (testM mc) tb m s1) (AftF X.K P F s σ H D), ⟨_, s, .refl k, w⟩, ?_⟩
      rintro m σ1 H1 ⟨s1, a1, w1⟩
      cases m with
      | zero => exact (show False from w1).elim
      | succ m =>
        have w1 : WpS X.K EC W P F s σ H (((testM mc).bind fun k => if k then tb.bind fun f => (match f with
          | .nx => whN (testM mc) tb m
          | .rt r => M.pure (.rt r)) else M.pure .nx) s1) (AftF X.K P F s σ H D) := w1
        refine ⟨F, s1, a1.ok, ((w1.bind.on a1).toE).mono fun q s2 hq H2 aq => ?_⟩
        have a2 := AftN.of (P := P) aq.ok aq.fr
        cases q with
        | true =>
          rw [if_pos rfl] at hq
          refine ⟨fun σ' H' => ∃ s1, AftN X.K P F s σ H s1 σ' H' ∧ WpS X.K EC W P F s σ H (whN (testM mc) tb m s1) (AftF X.K P F s σ H D), fun σ' H' z => ⟨m, Nat.lt_succ_self m, z⟩, F, s2, aq.ok, (hq.bind.on (a1.trans a2)).mono fun f s3 hf => ?_⟩
          cases f with
          | nx => exact fun σ' H' a => ⟨s3, (a1.trans a2).trans a, hf⟩
          | rt r => exact fun σ' H1 s1' v H' a b => (show AftF X.K P F s σ H D (.rt r) s3 from hf) σ' H1 s1' v H' ((a1.trans a2).trans a) b
        | false =>
          rw [if_neg (by decide)] at hq
          exact (show AftF X.K P F s σ H D .nx s2 from hq) σ1 H2 (a1.trans a2)
    · rw [dif_neg h] at w
      exact w.elim
theorem S_fo {src : M (List D)} {t : Tg} {tb : M Fl} {tg it : Expr} {body : List Stmt} (hp : PassesOwn (model X.prog X.w) X.A X.env X.xe) (hc : X.calm = true) (hi : PI X tg it (tSr X.K EC W src)) (hg : PG X tg (tPut X.K t)) (hb : PSs X body (tS X.K EC W P tb))
    (hs : ∀ x, foldedSetIterable it X.env x = pure x) : PS X (.For tg it body [] pos) (tS X.K EC W P (if okT P t then src.bind fun ds => foGo (fun d => (putT t d).bind fun _ => tb) ds else bad)) := psW (ps_for hp hc hi hg hb hs) fun D σ H ⟨F, s, k, w⟩ => by
  by_cases ho : okT P t = true
  case neg => rw [if_neg ho] at w; exact w.elim
  rw [if_pos ho] at w
  refine ⟨F, s, k, w.bind.toE.mono fun ds s1 hd J H1 k1 f1 hJ => ?_⟩
  have a1 : AftN X.K P F s σ H s1 σ H1 := .of k1 f1
  refine ⟨fun i m σ2 H2 => m = ds.length - i ∧ i ≤ ds.length ∧ ∃ s2, AftN X.K P F s1 σ H1 s2 σ2 H2 ∧ WpS X.K EC W P F s σ H (foGo (fun d => (putT t d).bind fun _ => tb) (ds.drop i) s2) (AftF X.K P F s σ H D),
    ⟨ds.length, by simp, Nat.zero_le _, s1, .refl k1, by rw [List.drop_zero]; exact hd⟩, ?_⟩
  rintro i m σ2 H2 ⟨rfl, hle, s2, a2, w2⟩
  obtain ⟨j1, j2⟩ := hJ _ H2 (fun _ => a2.ok.nn) a2.fr.le i
  cases hget : ds[i]? with
  | none =>
    have hi' : ds.length ≤ i := List.getElem?_eq_none_iff.mp hget
    rw [List.drop_eq_nil_of_le hi'] at w2
    exact .inl ⟨j2 hget, (show AftF X.K P F s σ H D .nx s2 from w2) _ _ (a1.trans a2)⟩
  | some d =>
    obtain ⟨jg, jy⟩ := j1 d hget
    have hlt : i < ds.length := (List.getElem?_eq_some_iff.mp hget).1
    rw [get_drop hget] at w2
    have w2 : WpS X.K EC W P F s σ H ((((putT t d).bind fun _ => tb).bind fun f => match f with
      | .nx => foGo (fun d => (putT t d).bind fun _ => tb) (ds.drop (i + 1))
      | .rt r => M.pure (.rt r)) s2) (AftF X.K P F s σ H D) := w2
    refine .inr ⟨jg, fun σ' H' => ∃ s3, AftN X.K P F s1 σ H1 s3 σ' H' ∧ WpS X.K EC W P F s σ H (foGo (fun d => (putT t d).bind fun _ => tb) (ds.drop (i + 1)) s3) (AftF X.K P F s σ H D),
      fun σ' H' ⟨s3, z1, z2⟩ => ⟨ds.length - (i + 1), by omega, rfl, hlt, s3, z1, z2⟩, fun y H3 hy => ?_⟩
    obtain ⟨hx, rx⟩ := jy y H3 hy
    have kf : AftN X.K P F s2 σ2 H2 s2 σ2 H3 := by
      rcases hx with rfl | ⟨p, u, hp, rfl⟩
      · exact .refl a2.ok
      · exact .of (a2.ok.new hp) (a2.ok.frNew hp)
    obtain ⟨s4, e4, w4, hT⟩ := put_use ho kf.ok rx w2.bind
    refine ⟨F, s2, d, kf.ok, rx, s4, e4, fun σ4 at_ => ?_⟩
    have a4 := (a2.trans kf).trans (hT σ4 at_)
    refine ⟨F, s4, at_.ok, (w4.on (a1.trans a4)).mono fun f s5 hf => ?_⟩
    cases f with
    | nx => exact fun σ' H' a => ⟨s5, a4.trans a, hf⟩
    | rt r => exact fun σ' H1' s1' v H' a b => (show AftF X.K P F s σ H D (.rt r) s5 from hf) σ' H1' s1' v H' ((a1.trans a4).trans a) b
theorem S_rai {c : Nat} {t : L2.St → Hp → XK → Prop} (hc : X.calm = true) (tk : Takes X W) (hm : PMk X e (fun _ H Q => Q (.ref (EC c)) none H)) : PS X (.Raise (some e) none pos) (tS X.K EC W P (fun s => .err ⟨c, none⟩ s)) :=
  psW (ps_raise hc tk hm) fun D σ H ⟨F, s, k, w⟩ => by
    have w : ∀ σ' H' cls d, AftN X.K P F s σ H s σ' H' → ErR EC ⟨c, none⟩ cls d → W cls d σ' H' := w
    exact w σ H _ none (.refl k) ⟨rfl, rfl⟩
end
end Hg
set_option Elab.async false
set_option linter.all false
set_option maxRecDepth 100000
set_option maxHeartbeats 400000
/-! Every statement runs as its term says. -/
namespace Hg
open PySem PySem.Spec PyProof.Rows L2 RZ RT
def isF : Option Bool → Bool
  | some false => true
  | _ => false
def isSm : Option Bool → Bool
  | some _ => true
  | _ => false
def isSn : Option (Option (List Str)) → Bool
  | some none => true
  | _ => false
def isS2 (n y : Str) : Option (Option (List Str)) → Bool
  | some (some [a, b]) => decide (a = n) && decide (b = y)
  | _ => false
def isS3 (n y z : Str) : Option (Option (List Str)) → Bool
  | some (some [a, b, c]) => decide (a = n) && decide (b = y) && decide (c = z)
  | _ => false
def chCst : Cst → Expr → Bool
  | .d .none, .Constant .none _ _ => true
  | .d (.bool b), .Constant (.bool c) _ _ => decide (b = c)
  | .d (.int i), .Constant (.int j) _ _ => decide (i = j)
  | .d (.str i), .Constant (.str j) _ _ => decide (i = j)
  | .emp, .List [] _ => true
  | _, _ => false
def chHd (x : Sx) : Hdl → Stmt → Bool
  | .set i c, .Assign [.Name n _] a _ => x.tgt i n && chCst c a
  | .ret c, .Return (some a) _ => chCst c a
  | _, _ => false
def chHs (x : Sx) : List (Nat × Hdl) → List ExceptHandler → Bool
  | [], [] => true
  | (c, h) :: hs, .ExceptHandler (some (.Name n _)) none [st] _ :: es => decide (x.exn c = some n) && x.glo n && chHd x h st && chHs x hs es
  | _, _ => false
def notL : Ex → Bool
  | .lcl .. => false
  | _ => true
mutual
def chSt (x : Sx) : St → Stmt → Bool
  | .asg t e, st => match st with
    | .Assign [tg] a _ => (match t with
      | .name i => (match tg with
        | .Name n p => x.tgt i n && (notL e && chE x e a) && isSm (swF x.sc a (some (.Name n p)))
        | _ => false)
      | .tup ts => chT x (.tup ts) tg && chE x e a && isF (swF x.sc a (some tg)) && isSn (swSt x.sc [tg] a))
    | _ => false
  | .par i j a b, st => match st with
    | .Assign [.Tuple [.Name n p1, .Name y p2] kt pt] (.Tuple [ea, eb] k2 pt2) _ => x.loc i n && x.loc j y && decide (i ≠ j) && chE x a ea && chE x b eb && isS2 n y (swSt x.sc [.Tuple [.Name n p1, .Name y p2] kt pt] (.Tuple [ea, eb] k2 pt2))
    | _ => false
  | .par3 i j l a b c, st => match st with
    | .Assign [.Tuple [.Name n p1, .Name y p2, .Name z p3] kt pt] (.Tuple [ea, eb, ec] k2 pt2) _ => x.loc i n && x.loc j y && x.loc l z && decide (i ≠ j) && decide (i ≠ l) && decide (j ≠ l) && chE x a ea && chE x b eb && chE x c ec && isS3 n y z (swSt x.sc [.Tuple [.Name n p1, .Name y p2, .Name z p3] kt pt] (.Tuple [ea, eb, ec] k2 pt2))
    | _ => false
  | .six i k e, st => match st with
    | .Assign [.Subscript (.Name n p1) ix pp] a _ => x.var i n && chE x k ix && chE x e a && isF (swF x.sc a (some (.Subscript (.Name n p1) ix pp)))
    | _ => false
  | .exp e, st => match st with
    | .Expr a _ => chE x e a && isF (swF x.sc a none)
    | _ => false
  | .ret e, st => match st with
    | .Return (some a) _ => chE x e a
    | .Return none _ => isNon e
    | _ => false
  | .ite c a b, st => match st with
    | .If ec ea eb _ => chE x c ec && chSts x a ea && chSts x b eb
    | _ => false
  | .whl c b, st => match st with
    | .While ec eb [] _ => chE x c ec && chSts x b eb
    | _ => false
  | .fo sr t b, st => match st with
    | .For tg it eb [] _ => chS x sr tg it && chT x t tg && chSts x b eb
    | _ => false
  | .rai c, st => match st with
    | .Raise (some (.Call (.Name n _) [.Constant (.str _) _ _] kw _)) none _ => kw.isEmpty && decide (x.exn c = some n) && x.glo n
    | _ => false
  | .tr b m hs, st => match st with
    | .Try body (h0 :: es) [] [] _ => chSts x b body && chHs x hs (h0 :: es) && (List.range m).all (fun c => (x.exn c).isSome) && hs.all (fun h => decide (h.1 < m))
    | _ => false
def chSts (x : Sx) : Sts → List Stmt → Bool
  | .nil, l => match l with
    | [] => true
    | _ => false
  | .cons s ss, l => match l with
    | st :: sts => chSt x s st && chSts x ss sts
    | _ => false
end
structure CtxS (EC : Nat → Addr) (C : Cal) (k : Nat) (X : Cx) (W : WX) (x : Sx) : Prop where
  cx : Ctx EC C k X W x
  pass : PassesOwn (model X.prog X.w) X.A X.env X.xe
  exc : ∀ (pn : List (Addr × Obj)) (xe : Value → Shared → Prop) c n, x.exn c = some n → ∀ (m : Str) (j : Nat) (p p2 pos : Pos), Gl X n → (n == ("__debug__" : Str)) = false → PMk (X.tr pn xe) (.Call (.Name n p) [.Constant (.str m) j p2] [] pos) (fun _ H Q => Q (.ref (EC c)) none H)
  st : X.stack = X.env :: X.outer
  fr : X.env.frame = some X.env.locals
  exg : ∀ c n, x.exn c = some n → X.mg n = some (.ref (EC c))
  exm : ∀ c c' n n', x.exn c = some n → x.exn c' = some n' → PySem.W.exmOne X.K (.ref (EC c)) (.ref (EC c')) = some (decide (c = c'))
def GoodSt (EC : Nat → Addr) (C : Cal) (k : Nat) (P : List Nat) (s : St) : Prop := ∀ (X : Cx) (W : WX) (x : Sx) (st : Stmt), CtxS EC C k X W x → chSt x s st = true → PS X st (tS X.K EC W P (evS C P s))
def GoodSts (EC : Nat → Addr) (C : Cal) (k : Nat) (P : List Nat) (s : Sts) : Prop := ∀ (X : Cx) (W : WX) (x : Sx) (st : List Stmt), CtxS EC C k X W x → chSts x s st = true → PSs X st (tS X.K EC W P (evSs C P s))
section
variable {EC : Nat → Addr} {C : Cal} {k : Nat} {P : List Nat} {X : Cx} {W : WX} {x : Sx} {i : Nat} {n : Str}
theorem isF_of {o : Option Bool} (h : isF o = true) : o = some false := by
  unfold isF at h
  split at h
  · rfl
  · cases h
theorem isSn_of {o : Option (Option (List Str))} (h : isSn o = true) : o = some none := by
  unfold isSn at h
  split at h
  · rfl
  · cases h
theorem isS2_of {y : Str} {o : Option (Option (List Str))} (h : isS2 n y o = true) : o = some (some [n, y]) := by
  unfold isS2 at h
  split at h
  · rw [Bool.and_eq_true] at h
    cases of_decide_eq_true h.1
    cases of_decide_eq_true h.2
    rfl
  · cases h
theorem isS3_of {y z : Str} {o : Option (Option (List Str))} (h : isS3 n y z o = true) : o = some (some [n, y, z]) := by
  unfold isS3 at h
  split at h
  · rw [Bool.and_eq_true, Bool.and_eq_true] at h
    cases of_decide_eq_true h.1.1
    cases of_decide_eq_true h.1.2
    cases of_decide_eq_true h.2
    rfl
  · cases h
theorem Ctx.tgt (c : Ctx EC C k X W x) (h : x.tgt i n = true) : X.N[i]? = some n ∧ Loc X.env.scope n ∧ (X.fn n = true ∨ X.env.scope.names.lookup n = some .local) := by
  unfold Sx.tgt at h
  simp only [Bool.and_eq_true, decide_eq_true_eq] at h
  obtain ⟨⟨h1, h2⟩, h3⟩ := h
  have hN : X.N[i]? = some n := by rw [c.nm]; exact h1
  rw [← c.sc] at h2
  split at h2
  · rename_i hl
    exact ⟨hN, .inl hl, .inr hl⟩
  · rename_i hl
    exact ⟨hN, .inr hl, .inl (c.own n h2)⟩
  · cases h2
theorem Ctx.loc (c : Ctx EC C k X W x) (h : x.loc i n = true) : X.N[i]? = some n ∧ X.env.scope.names.lookup n = some .local := by
  unfold Sx.loc at h
  simp only [Bool.and_eq_true, decide_eq_true_eq] at h
  obtain ⟨⟨h1, h2⟩, h3⟩ := h
  rw [← c.sc] at h2
  split at h2
  · rename_i hl
    exact ⟨by rw [c.nm]; exact h1, hl⟩
  · cases h2
theorem swSole {env : Env} {tg e : Expr} {l : Nat} : swapsWithSole [tg] e l env = swapsWith e (some tg) l env := rfl
theorem d_asgN {e : Ex} : GoodSt EC C k P (.asg (.name i) e) := fun X W x st c h => by
  unfold chSt at h
  dsimp only at h
  split at h
  · rename_i tg a pos
    split at h
    · rename_i n p
      rw [Bool.and_eq_true, Bool.and_eq_true] at h
      obtain ⟨⟨q1, q20⟩, q3⟩ := h
      obtain ⟨ql, q2⟩ := Bool.and_eq_true_iff.mp q20
      obtain ⟨t1, t2, t3⟩ := c.cx.tgt q1
      rw [← c.cx.sc] at q3
      cases hsw : swF X.env.scope a (some (.Name n p)) with
      | none => rw [hsw] at q3; cases q3
      | some b =>
        cases b with
        | false => exact S_set c.cx.nd t1 t2 (sndE EC C k e X W x a c.cx q2).2.1 (sw_of c.cx.kd hsw) t3
        | true =>
          cases e with
          | lc src tg cd el own =>
            unfold chE at q2
            split at q2
            · rename_i el' t it ifs kk scope pos2
              obtain ⟨rfl, L⟩ := lc_parts (own := own) (el' := el') (t := t) (it := it) (ifs := ifs) (scope := scope) (kk := kk) (sndS EC C k src) (sndT EC C k tg) (sndE EC C k cd) (sndE EC C k el) c.cx q2
              have hl : X.env.scope.names.lookup n = some .local := by
                have z : some ((X.env.scope.names.lookup n == some .local) && p.line == (Expr.ListComp el' [⟨t, it, ifs, 0⟩] scope pos2).pos.line && !(scope.names.any fun (n', k) => n' == n && (k == .local || k == .cell))) = some true := hsw
                rw [Option.some.injEq, Bool.and_eq_true, Bool.and_eq_true] at z
                have z1 := z.1.1
                revert z1
                cases X.env.scope.names.lookup n with
                | none => intro z; exact absurd z (by decide)
                | some kd => cases kd <;> intro z <;> first | rfl | exact absurd z (by decide)
              exact S_setLc c.cx.calm c.cx.nd t1 hl (sw_of c.cx.kd hsw) L.hi L.ok L.hg L.ht L.he L.hs L.sub
            · cases q2
          | lcl i2 tg cd el own => cases ql
          | _ =>
            exfalso
            clear q20
            revert q2 hsw
            unfold chE
            cases a <;> intro q2 hsw <;> first | (cases q2; done) | (cases hsw; done) | (simp at q2; done)
    · cases h
  · cases h
theorem d_asgT {ts : Tgs} {e : Ex} : GoodSt EC C k P (.asg (.tup ts) e) := fun X W x st c h => by
  unfold chSt at h
  dsimp only at h
  split at h
  · rename_i tg a pos
    simp only [Bool.and_eq_true] at h
    obtain ⟨⟨⟨q1, q2⟩, q3⟩, q4⟩ := h
    rw [← c.cx.sc] at q3 q4
    obtain ⟨n1, g1⟩ := sndT EC C k (.tup ts) X W x tg c.cx q1
    refine S_tup (sndE EC C k e X W x a c.cx q2).2.1 g1 (sw_of c.cx.kd (isF_of q3)) (swSt_of c.cx.kd (isSn_of q4)) ?_
    rw [assign_cons n1]
    rfl
  · cases h
theorem d_par {j : Nat} {a b : Ex} : GoodSt EC C k P (.par i j a b) := fun X W x st c h => by
  unfold chSt at h
  split at h
  · rename_i n p1 y p2 kt pt ea eb k2 pt2 pos
    simp only [Bool.and_eq_true, decide_eq_true_eq] at h
    obtain ⟨⟨⟨⟨⟨q1, q2⟩, q3⟩, q4⟩, q5⟩, q6⟩ := h
    rw [← c.cx.sc] at q6
    obtain ⟨t1, t2⟩ := c.cx.loc q1
    obtain ⟨u1, u2⟩ := c.cx.loc q2
    obtain ⟨m1, v1, _⟩ := sndE EC C k a X W x ea c.cx q4
    obtain ⟨m2, v2, _⟩ := sndE EC C k b X W x eb c.cx q5
    exact S_par c.cx.calm c.cx.nd t1 u1 q3 t2 u2 v1 v2 (plain_star m1) (plain_star m2) (swSt_of c.cx.kd (isS2_of q6))
  · cases h
theorem d_par3 {j l : Nat} {a b e : Ex} : GoodSt EC C k P (.par3 i j l a b e) := fun X W x st c h => by
  unfold chSt at h
  split at h
  · rename_i n p1 y p2 z p3 kt pt ea eb ec k2 pt2 pos
    simp only [Bool.and_eq_true, decide_eq_true_eq] at h
    obtain ⟨⟨⟨⟨⟨⟨⟨⟨⟨q1, q2⟩, q3⟩, q4⟩, q5⟩, q6⟩, q7⟩, q8⟩, q9⟩, q10⟩ := h
    rw [← c.cx.sc] at q10
    obtain ⟨t1, t2⟩ := c.cx.loc q1
    obtain ⟨u1, u2⟩ := c.cx.loc q2
    obtain ⟨w1, w2⟩ := c.cx.loc q3
    obtain ⟨m1, v1, _⟩ := sndE EC C k a X W x ea c.cx q7
    obtain ⟨m2, v2, _⟩ := sndE EC C k b X W x eb c.cx q8
    obtain ⟨m3, v3, _⟩ := sndE EC C k e X W x ec c.cx q9
    exact S_par3 c.cx.calm c.cx.nd t1 u1 w1 q4 q5 q6 t2 u2 w2 v1 v2 v3 (plain_star m1) (plain_star m2) (plain_star m3) (swSt_of c.cx.kd (isS3_of q10))
  · cases h
/-! ### try -/
/-- within a try's body -/
theorem CtxS.tr {W' : WX} (c : CtxS EC C k X W x) {pn : List (Addr × Obj)} {xe : Value → Shared → Prop} (tk : Takes (X.tr pn xe) W') (hp : PassesOwn (model X.prog X.w) X.A X.env xe) : CtxS EC C k (X.tr pn xe) W' x := by
  refine ⟨⟨c.cx.sc, c.cx.nm, c.cx.kd, c.cx.nd, c.cx.calm, tk, c.cx.room, c.cx.un, c.cx.free, fun f n h => c.cx.fn f n h, c.cx.con, c.cx.own, fun h => c.cx.lam h, fun h run hr r ks n a b => ?_, fun h run hr => c.cx.lw h run hr, c.cx.tbl⟩, hp, c.exc, c.st, c.fr, c.exg, c.exm⟩
  obtain ⟨y, g, pg, bg, sg, dV, kV, doc, pm, cdv, ct, oc, an, od, osl, Ng, R⟩ := c.cx.rf h run hr r ks n a b
  exact ⟨y, g, pg, bg, sg, dV, kV, doc, pm, cdv, ct, oc, an, od, osl, Ng, ⟨R.hm, R.hk, R.lk, R.hc, R.hb, R.hS, R.hN, R.hv, R.hd, R.hcd, R.hG⟩⟩
def cstV : D → V
  | .bool b => .bl b
  | .int i => .int i
  | .str s => .str s
  | _ => .non
def tCst : Cst → TE
  | .d d => tC (cstV d)
  | .emp => tLst tNil
theorem cst_ok {Y : Cx} {cs : Cst} {a : Expr} (h : chCst cs a = true) : PE Y a (tCst cs) ∧ swF Y.env.scope a (some a) = some false := by
  unfold chCst at h
  split at h
  · exact ⟨pe_non, rfl⟩
  · cases of_decide_eq_true h
    exact ⟨pe_bl, rfl⟩
  · cases of_decide_eq_true h
    exact ⟨pe_int, rfl⟩
  · cases of_decide_eq_true h
    exact ⟨pe_str, rfl⟩
  · exact ⟨pe_lst pa_nil, rfl⟩
  · cases h
theorem cst_sw {cs : Cst} {a : Expr} (h : chCst cs a = true) (tg : Expr) (l : Nat) (env : Env) : swapsWith a (some tg) l env = pure false := by
  unfold chCst at h
  split at h <;> first | rfl | (cases h)
/-- what behind a suite is asked -/
def tH : Hdl → TS
  | .set i c => tAsg (tCst c) (gName i)
  | .ret c => tRet (tCst c)
theorem hd_ok {Y : Cx} {x : Sx} {h : Hdl} {st : Stmt} (hN : Y.N.Nodup) (ht : ∀ i n, x.tgt i n = true → Y.N[i]? = some n ∧ Loc Y.env.scope n ∧ (Y.fn n = true ∨ Y.env.scope.names.lookup n = some .local)) (q : chHd x h st = true) : PSs Y [st] (tH h) := by
  unfold chHd at q
  split at q
  · rename_i i c n p a p2
    rw [Bool.and_eq_true] at q
    obtain ⟨t1, t2, t3⟩ := ht i n q.1
    exact pss_one (ps_set hN t1 t2 (cst_ok q.2).1 (cst_sw q.2 _ _ _) t3)
  · exact pss_one (ps_ret (cst_ok q).1)
  · cases q
theorem rp_cst {K : PySem.W.Frag} {H : Hp} {d : D} {a : Expr} (h : chCst (.d d) a = true) : Rp K H (cstV d) d := by
  unfold chCst at h
  split at h <;> first | (rename_i e; cases e; first | exact .non | exact .bl _ | exact .int _ | exact .str _) | (rename_i e; cases e) | (cases h)
theorem cst_aft {F : NS} {s : S} {σ : L2.St} {H : Hp} {cs : Cst} {a : Expr} {Q : VK} (h : chCst cs a = true) (k : StOk X.K F s σ H) (w : ∀ v H', AftS X.K F s σ H cs.sl s v H' → Q v H') : tCst cs σ H Q := by
  cases cs with
  | d d => exact w _ H ⟨k, Fr.refl, rp_cst h⟩
  | emp => exact ⟨by decide, fun p hp => w _ _ ⟨p, rfl, AftW.new k Fr.refl hp .nil⟩⟩
theorem h_use {F : NS} {s s' : S} {σ σ' : L2.St} {H H' : Hp} {D : Ends} {h : Hdl} {st : Stmt} (q : chHd x h st = true) (a : AftN X.K P F s σ H s' σ' H') (w : WpS X.K EC W P F s σ H (runH P h s') (AftF X.K P F s σ H D)) : tH h D σ' H' := by
  unfold chHd at q
  split at q
  · rename_i i c n p e p2
    rw [Bool.and_eq_true] at q
    have w : WpS X.K EC W P F s' σ' H' (nx (asgM P i c.sl) s') (AftF X.K P F s' σ' H' D) := (w.on a).mono fun f s2 z => AftF.on a z
    exact cst_aft q.2 a.ok fun v H2 z => asg_use a.ok z w
  · rename_i c e p2
    have w : AftF X.K P F s' σ' H' D (.rt c.sl) s' := AftF.on a (show AftF X.K P F s σ H D (.rt c.sl) s' from w)
    exact cst_aft q a.ok fun v H2 z => ret_use a.ok z w
  · cases q
theorem hs_ok (c : CtxS EC C k X W x) : ∀ {hs : List (Nat × Hdl)} {es : List ExceptHandler}, chHs x hs es = true → HdsOk X es (hs.map fun h => (Value.ref (EC h.1), fun _ _ _ => tH h.2))
  | [], [], _ => .nil
  | (cc, h) :: hs, e :: es, q => by
    unfold chHs at q
    split at q
    · rename_i e1 e2
      cases e1
    · rename_i c1 h1 hs1 n p st p2 es1 e1 e2
      cases e1
      cases e2
      simp only [Bool.and_eq_true, decide_eq_true_eq] at q
      obtain ⟨⟨⟨q1, q2⟩, q3⟩, q4⟩ := q
      obtain ⟨g1, g2, _⟩ := c.cx.gl q2
      refine .cons ⟨g1, g2, .inl (c.exg cc n q1)⟩ (fun a oe cls d pn _ _ => hd_ok (Y := X.suite a ((a, oe) :: pn)) c.cx.nd (fun i n z => c.cx.tgt z) q3) (hs_ok c q4)
    · cases q
  | [], _ :: _, q => by cases q
  | (_, _) :: _, [], q => by cases q
theorem many_ok (c : CtxS EC C k X W x) {F : NS} {s s' : S} {σ σ' : L2.St} {H H' : Hp} {D : Ends} {er : Er} {cls : Value} {d : Option Addr} (a : AftN X.K P F s σ H s' σ' H') (eq_ : ErR EC er cls d) {n : Str} (hn : x.exn er.cls = some n) : ∀ {hs : List (Nat × Hdl)} {es : List ExceptHandler}, chHs x hs es = true →
    WpS X.K EC W P F s σ H (match hs.lookup er.cls with
      | some h => runH P h s'
      | none => .err er s') (AftF X.K P F s σ H D) → wMany X.K W D (hs.map fun h => (Value.ref (EC h.1), fun _ _ _ => tH h.2)) cls d σ' H'
  | [], [], _, w => (show ∀ (σ' : L2.St) (H' : Hp) (cls : Value) (d : Option Addr), AftN X.K P F s σ H s' σ' H' → ErR EC er cls d → W cls d σ' H' from w) σ' H' cls d a eq_
  | (cc, h) :: hs, e :: es, q, w => by
    unfold chHs at q
    split at q
    · rename_i e1 e2
      cases e1
    · rename_i c1 h1 hs1 n1 p st p2 es1 e1 e2
      cases e1
      cases e2
      simp only [Bool.and_eq_true, decide_eq_true_eq] at q
      obtain ⟨⟨⟨q1, q2⟩, q3⟩, q4⟩ := q
      rw [List.lookup_cons] at w
      refine ⟨decide (er.cls = cc), by rw [eq_.1]; exact c.exm _ _ _ _ hn q1, fun z b _ => ?_, fun z => ?_⟩
      · have z := of_decide_eq_true z
        have e0 : (er.cls == cc) = true := by rw [z]; exact beq_self_eq_true cc
        rw [e0] at w
        exact h_use q3 a w
      · have z := of_decide_eq_false z
        have e0 : (er.cls == cc) = false := by simpa using z
        rw [e0] at w
        exact many_ok c a eq_ hn q4 w
    · cases q
  | [], _ :: _, q, _ => by cases q
  | (_, _) :: _, [], q, _ => by cases q
theorem d_tr {b : Sts} {m : Nat} {hs : List (Nat × Hdl)} (hb : GoodSts EC C k P b) : GoodSt EC C k P (.tr b m hs) := fun X W x st c h => by
  unfold chSt at h
  split at h
  · rename_i body h0 es pos
    simp only [Bool.and_eq_true] at h
    obtain ⟨⟨⟨q1, q2⟩, q3⟩, q4⟩ := h
    refine psW (ps_try_many (tb := fun W1 => tS X.K EC W1 P (evSs C P b)) c.st c.fr c.cx.tk (fun W' pn xe tk hp => hb (X.tr pn xe) W' x body (c.tr tk hp) q1) (hs_ok c q2)) fun D σ H ⟨F, s, kk, w⟩ => ⟨F, s, kk, ?_⟩
    have w : WpS X.K EC W P F s σ H (trR P m hs (evSs C P b s)) (AftF X.K P F s σ H D) := w
    cases e : evSs C P b s with
    | bad => rw [e] at w; exact w.elim
    | ok f s' => rw [e] at w; exact w
    | err er s' =>
      rw [e] at w
      have w : WpS X.K EC W P F s σ H (if er.cls < m then (match hs.lookup er.cls with
        | some h => runH P h s'
        | none => .err er s') else .bad) (AftF X.K P F s σ H D) := w
      by_cases hm : er.cls < m
      · rw [if_pos hm] at w
        have z := List.all_eq_true.mp q3 er.cls (List.mem_range.mpr hm)
        obtain ⟨n, hn⟩ := Option.isSome_iff_exists.mp z
        intro σ' H' cls d a er1
        exact many_ok c a er1 hn q2 w
      · rw [if_neg hm] at w
        exact w.elim
  · cases h
theorem d_six {e1 e2 : Ex} : GoodSt EC C k P (.six i e1 e2) := fun X W x st c h => by
  unfold chSt at h
  split at h
  · rename_i n p1 ix pp a pos
    simp only [Bool.and_eq_true] at h
    obtain ⟨⟨⟨q1, q2⟩, q3⟩, q4⟩ := h
    rw [← c.cx.sc] at q4
    obtain ⟨m1, v1, _⟩ := sndE EC C k e1 X W x ix c.cx q2
    have v2 := (sndE EC C k e2 X W x a c.cx q3).2.1
    exact S_six (pos := pos) v2 (c.cx.name q1) v1 (sw_of (l := pos.line) c.cx.kd (isF_of q4)) (swSt_of c.cx.kd (by cases a <;> rfl)) fun v => by cases ix <;> first | rfl | cases m1
  · cases h
theorem d_exp {e : Ex} : GoodSt EC C k P (.exp e) := fun X W x st c h => by
  unfold chSt at h
  split at h
  · rename_i a pos
    rw [Bool.and_eq_true] at h
    have q := h.2
    rw [← c.cx.sc] at q
    exact S_exp (sndE EC C k e X W x a c.cx h.1).2.1 (sw_of c.cx.kd (isF_of q))
  · cases h
theorem d_ret {e : Ex} : GoodSt EC C k P (.ret e) := fun X W x st c h => by
  unfold chSt at h
  split at h
  · rename_i a pos
    have v := (sndE EC C k e X W x a c.cx h).2.1
    cases e with
    | var i =>
      unfold chE at h
      split at h
      · exact S_retV (c.cx.name h)
      · cases h
    | _ => exact S_ret v
  · rename_i pos
    have e1 : e = .non := by
      unfold isNon at h
      split at h
      · rfl
      · cases h
    subst e1
    exact S_retN
  · cases h
theorem d_ite {e : Ex} {a b : Sts} (ha : GoodSts EC C k P a) (hb : GoodSts EC C k P b) : GoodSt EC C k P (.ite e a b) := fun X W x st c h => by
  unfold chSt at h
  split at h
  · rw [Bool.and_eq_true, Bool.and_eq_true] at h
    exact S_ite (sndE EC C k e X W x _ c.cx h.1.1).2.2 (ha X W x _ c h.1.2) (hb X W x _ c h.2)
  · cases h
theorem d_whl {e : Ex} {b : Sts} (hb : GoodSts EC C k P b) : GoodSt EC C k P (.whl e b) := fun X W x st c h => by
  unfold chSt at h
  split at h
  · rw [Bool.and_eq_true] at h
    exact S_whl c.pass (sndE EC C k e X W x _ c.cx h.1).2.2 (hb X W x _ c h.2)
  · cases h
theorem d_fo {sr : Src} {t : Tg} {b : Sts} (hb : GoodSts EC C k P b) : GoodSt EC C k P (.fo sr t b) := fun X W x st c h => by
  unfold chSt at h
  split at h
  · rename_i tg it eb pos
    rw [Bool.and_eq_true, Bool.and_eq_true] at h
    obtain ⟨p1, i1⟩ := sndS EC C k sr X W x tg it c.cx h.1.1
    exact S_fo c.pass c.cx.calm i1 (sndT EC C k t X W x tg c.cx h.1.2).2 (hb X W x _ c h.2) (plain_fold p1 X.env)
  · cases h
theorem d_rai {cc : Nat} : GoodSt EC C k P (.rai cc) := fun X W x st c h => by
  unfold chSt at h
  split at h
  · rename_i n p m j p2 kw pos pos2
    rw [Bool.and_eq_true, Bool.and_eq_true] at h
    obtain ⟨⟨h1, h2⟩, h3⟩ := h
    cases kw_nil h1
    obtain ⟨g1, g2, _⟩ := c.cx.gl h3
    exact S_rai (t := fun _ _ _ => True) c.cx.calm c.cx.tk (c.exc X.pn X.xe cc n (of_decide_eq_true h2) m _ p p2 _ g1 g2)
  · cases h
mutual
theorem sndSt (EC : Nat → Addr) (C : Cal) (k : Nat) (P : List Nat) : ∀ s : St, GoodSt EC C k P s
  | .asg (.name _) _ => d_asgN
  | .asg (.tup _) _ => d_asgT
  | .par _ _ _ _ => d_par
  | .par3 _ _ _ _ _ _ => d_par3
  | .six _ _ _ => d_six
  | .exp _ => d_exp
  | .ret _ => d_ret
  | .ite _ a b => d_ite (sndSts EC C k P a) (sndSts EC C k P b)
  | .whl _ b => d_whl (sndSts EC C k P b)
  | .fo _ _ b => d_fo (sndSts EC C k P b)
  | .rai _ => d_rai
  | .tr b _ _ => d_tr (sndSts EC C k P b)
theorem sndSts (EC : Nat → Addr) (C : Cal) (k : Nat) (P : List Nat) : ∀ s : Sts, GoodSts EC C k P s
  | .nil => fun X W x st c h => by
    unfold chSts at h
    split at h
    · exact S_pass
    · cases h
  | .cons s ss => fun X W x st c h => by
    unfold chSts at h
    split at h
    · rw [Bool.and_eq_true] at h
      exact S_seq (sndSt EC C k P s X W x _ c h.1) (sndSts EC C k P ss X W x _ c h.2)
    · cases h
end
end
end Hg
set_option Elab.async false
set_option linter.all false
set_option maxRecDepth 100000
set_option maxHeartbeats 400000
/-! Defs keep the promises that their runs make. -/
namespace Hg
open PySem PySem.Spec PyProof.Rows L2 RZ RT
section
variable {K : PySem.W.Frag} {EC : Nat → Addr} {F G : NS} {as s s' s1 : S} {vs : List V} {σ' : L2.St} {H H1 H' : Hp} {io : List Bool} {outs : List Ob} {N : List Str}
theorem ioAt_ge : ∀ {n : Nat} {io : List Bool} {j : Nat}, j ∈ ioAt n io → n ≤ j
  | n, [], j, h => by cases h
  | n, true :: r, j, h => by
    rcases List.mem_cons.mp (show j ∈ n :: ioAt (n + 1) r from h) with e | h
    · omega
    · have := ioAt_ge h; omega
  | n, false :: r, j, h => by
    have := ioAt_ge (show j ∈ ioAt (n + 1) r from h)
    omega
theorem outsOf_cons {s : S} {i : Nat} {r : List Nat} {l : List Ob} (h : outsOf s (i :: r) = some l) : ∃ o os, l = o :: os ∧ s[i]? = some (.ow o) ∧ outsOf s r = some os := by
  have h : (match s[i]? with
    | some (.ow o) => (outsOf s r).map (o :: ·)
    | _ => none) = some l := h
  split at h
  · rename_i o q
    obtain ⟨os, e, rfl⟩ := Option.map_eq_some_iff.mp h
    exact ⟨o, os, rfl, q, e⟩
  · cases h
/-- the places of what is handed back -/
theorem outS_at : ∀ {n : Nat} {io : List Bool} {as : List Sl} {outs : List Ob}, goodArgs io as = true → outsOf s' (ioAt n io) = some outs → ∀ (j : Nat) (x : Sl), (outS as outs)[j]? = some x →
    (∃ o o', x = .ow o ∧ s'[n + j]? = some (.ow o) ∧ n + j ∈ ioAt n io ∧ as[j]? = some (.ow o')) ∨ ∃ d, x = .sh d ∧ as[j]? = some (.sh d)
  | n, [], [], outs, _, _, j, x, e => by
    have e : (([] : List Sl))[j]? = some x := e
    simp at e
  | n, true :: bs, .ow u :: as, outs, g, ho, j, x, e => by
    obtain ⟨o, os, rfl, h1, h2⟩ := outsOf_cons (show outsOf s' (n :: ioAt (n + 1) bs) = some outs from ho)
    have e : (Sl.ow o :: outS as os)[j]? = some x := e
    cases j with
    | zero =>
      cases (show some (Sl.ow o) = some x from e)
      exact .inl ⟨o, u, rfl, h1, List.mem_cons_self, rfl⟩
    | succ j =>
      have e : (outS as os)[j]? = some x := by simpa using e
      rcases outS_at (n := n + 1) (show goodArgs bs as = true from g) h2 j x e with ⟨o2, o3, z1, z2, z3, z4⟩ | ⟨d, z1, z2⟩
      · refine .inl ⟨o2, o3, z1, ?_, ?_, by simpa using z4⟩
        · rw [show n + (j + 1) = n + 1 + j by omega]; exact z2
        · rw [show n + (j + 1) = n + 1 + j by omega]; exact List.mem_cons_of_mem _ z3
      · exact .inr ⟨d, z1, by simpa using z2⟩
  | n, false :: bs, .sh u :: as, outs, g, ho, j, x, e => by
    have e : (Sl.sh u :: outS as outs)[j]? = some x := by
      cases outs <;> exact e
    cases j with
    | zero =>
      cases (show some (Sl.sh u) = some x from e)
      exact .inr ⟨u, rfl, rfl⟩
    | succ j =>
      have e : (outS as outs)[j]? = some x := by simpa using e
      rcases outS_at (n := n + 1) (show goodArgs bs as = true from g) (show outsOf s' (ioAt (n + 1) bs) = some outs from ho) j x e with ⟨o2, o3, z1, z2, z3, z4⟩ | ⟨d, z1, z2⟩
      · refine .inl ⟨o2, o3, z1, ?_, ?_, by simpa using z4⟩
        · rw [show n + (j + 1) = n + 1 + j by omega]; exact z2
        · rw [show n + (j + 1) = n + 1 + j by omega]; exact z3
      · exact .inr ⟨d, z1, by simpa using z2⟩
  | n, true :: bs, .sh _ :: as, _, g, _, _, _, _ => by cases g
  | n, true :: bs, .un :: as, _, g, _, _, _, _ => by cases g
  | n, false :: bs, .ow _ :: as, _, g, _, _, _, _ => by cases g
  | n, false :: bs, .un :: as, _, g, _, _, _, _ => by cases g
  | n, [], _ :: _, _, g, _, _, _, _ => by cases g
  | n, true :: _, [], _, g, _, _, _, _ => by cases g
  | n, false :: _, [], _, g, _, _, _, _ => by cases g
theorem start_get {j : Nat} (h : j < vs.length) : (L2.start N vs)[j]? = (vs.map some)[j]? := by
  unfold L2.start
  rw [List.getElem?_append_left (by simpa using h)]
/-- the slots at a def's entry -/
theorem start_ok (k : StOk K F as (vs.map some) H) : StOk K F (startS N.length as) (L2.start N vs) H ∧ Fr F (Nn F as (vs.map some)) H (Nn F (startS N.length as) (L2.start N vs)) H := by
  have hl : as.length = vs.length := by have := k.len; rwa [List.length_map] at this
  refine k.sub ?_ fun j x e hx => ?_
  · unfold startS L2.start
    rw [List.length_append, List.length_append, List.length_map, List.length_replicate, List.length_replicate, hl]
  · unfold startS at e
    by_cases hj : j < as.length
    · rw [List.getElem?_append_left hj] at e
      exact ⟨e, start_get (by omega)⟩
    · rw [List.getElem?_append_right (by omega), List.getElem?_replicate] at e
      split at e
      · cases e
        exact absurd rfl hx
      · cases e
/-- behind the body, told of the arguments -/
theorem back_in (k0 : StOk K F as (vs.map some) H) (g : goodArgs io as = true) (ho : outsOf s' (ioAt 0 io) = some outs) (k' : StOk K G s' σ' H') (f : Fr F (Nn F as (vs.map some)) H (Nn G s' σ') H') (pr : ∀ i ∈ ioAt 0 io, σ'[i]? = (L2.start N vs)[i]?) :
    StOk K G (outS as outs) (vs.map some) H' ∧ Fr F (Nn F as (vs.map some)) H (Nn G (outS as outs) (vs.map some)) H' ∧ Le (Hid (Nn G s' σ') H') (Hid (Nn G (outS as outs) (vs.map some)) H') := by
  have hl : as.length = vs.length := by have := k0.len; rwa [List.length_map] at this
  have at_ := outS_at (n := 0) (s' := s') g ho
  have slot : ∀ {j : Nat} {o : Ob}, (outS as outs)[j]? = some (.ow o) → s'[j]? = some (.ow o) ∧ σ'[j]? = (vs.map some)[j]? := fun {j o} e => by
    rcases at_ j _ e with ⟨o1, o2, z1, z2, z3, z4⟩ | ⟨d, z1, _⟩
    · cases z1
      rw [Nat.zero_add] at z2 z3
      exact ⟨z2, by rw [pr j z3, start_get (by rw [← hl]; exact get_lt z4)]⟩
    · cases z1
  have own : ∀ b, Own (outS as outs) (vs.map some) b → Own s' σ' b := fun b ⟨j, o, e1, e2⟩ => by
    obtain ⟨q1, q2⟩ := slot e1
    exact ⟨j, o, q1, by rw [q2]; exact e2⟩
  have nn : ∀ b, Nn G (outS as outs) (vs.map some) b → Nn G s' σ' b := fun b z => z.imp id (own b)
  have le : Le (Hid (Nn G s' σ') H') (Hid (Nn G (outS as outs) (vs.map some)) H') := fun b u _ z => by
    obtain ⟨a, z⟩ := hid_iff.mp z
    exact hid_iff.mpr ⟨fun y => a (nn b y), z⟩
  have f' : Fr F (Nn F as (vs.map some)) H (Nn G (outS as outs) (vs.map some)) H' := ⟨f.keep, fun b o n t e => let ⟨e1, n1⟩ := f.imm b o n t e; ⟨e1, fun z => n1 (nn b z)⟩⟩
  refine ⟨⟨by rw [outS_len]; exact k0.len, fun j d e => ?_, fun j o e => ?_, fun i j o o' p e e' q q' => ?_, fun b z => k'.ap b (own b z), k'.dom, k'.tb⟩, f', le⟩
  · rcases at_ j _ e with ⟨o1, o2, z1, _⟩ | ⟨d', z1, z2⟩
    · cases z1
    · cases z1
      obtain ⟨v, e1, r⟩ := k0.sh j d z2
      exact ⟨v, e1, Rp.mono f'.le _ _ r⟩
  · obtain ⟨q1, q2⟩ := slot e
    obtain ⟨p, e1, r⟩ := k'.ow j o q1
    exact ⟨p, by rw [← q2]; exact e1, r.mono rfl le⟩
  · obtain ⟨q1, q2⟩ := slot e
    obtain ⟨q3, q4⟩ := slot e'
    exact k'.inj i j o o' p q1 q3 (by rw [q2]; exact q) (by rw [q4]; exact q')
/-- from a def's promise to its body's reading -/
theorem body_of {C : Cal} {fd : Fd} {Q : VK} {E : XK} (k0 : StOk K F as (vs.map some) H)
    (w : Wp K EC (fun cls d _ H' => E cls d H') F as (vs.map some) H (runR (runFd C fd) as) fun r s' => ∀ v H', AftS K F as (vs.map some) H r s' v H' → Q v H') :
    tS K EC (fun cls d _ H' => E cls d H') (ioAt 0 fd.io) (evSs C (ioAt 0 fd.io) fd.body) { nx := fun _ H' => Q .non H', rt := Q } (L2.start fd.N vs) H := by
  obtain ⟨k1, f1⟩ := start_ok (N := fd.N) k0
  refine ⟨F, startS fd.N.length as, k1, ?_⟩
  unfold runR runFd at w
  by_cases g : goodArgs fd.io as = true
  case neg => rw [if_neg g] at w; exact w.elim
  rw [if_pos g] at w
  cases q : evSs C (ioAt 0 fd.io) fd.body (startS fd.N.length as) with
  | bad => rw [q] at w; exact w.elim
  | ok fl s' =>
    rw [q] at w
    cases fl with
    | nx =>
      dsimp only at w
      cases ho : outsOf s' (ioAt 0 fd.io) with
      | none => rw [ho] at w; exact w.elim
      | some outs =>
        rw [ho] at w
        intro σ' H' a
        obtain ⟨k2, f2, _⟩ := back_in k0 g ho a.ok (f1.trans a.fr) a.pr
        exact (show ∀ v H', AftS K F as (vs.map some) H (.sh .none) (outS as outs) v H' → Q v H' from w) .non H' ⟨k2, f2, .non⟩
    | rt r =>
      dsimp only at w
      cases ho : outsOf s' (ioAt 0 fd.io) with
      | none => rw [ho] at w; exact w.elim
      | some outs =>
        rw [ho] at w
        have w : ∀ v H', AftS K F as (vs.map some) H r (outS as outs) v H' → Q v H' := w
        intro σ' H1 s1 v H' a b
        refine w v H' ?_
        cases r with
        | un => exact b.elim
        | sh d =>
          obtain ⟨k2, f2, le⟩ := back_in k0 g ho (AftD.ok b) ((f1.trans a.fr).trans (AftD.fr b)) a.pr
          exact ⟨k2, f2, Rp.mono le _ _ (AftD.rp b)⟩
        | ow o =>
          obtain ⟨p, rfl, z⟩ := b
          have f3 : Fr F (Nn F as (vs.map some)) H (Nn (Ad F p) s' σ') H' := (f1.trans a.fr).trans z.fr
          obtain ⟨k2, f2, le⟩ := back_in k0 g ho z.ok f3 a.pr
          exact ⟨p, rfl, k2, f2, z.nf, z.at_.mono rfl le⟩
  | err u s' =>
    rw [q] at w
    dsimp only at w
    cases ho : outsOf s' (ioAt 0 fd.io) with
    | none => rw [ho] at w; exact w.elim
    | some outs =>
      rw [ho] at w
      intro σ' H' cls d a er
      obtain ⟨k2, f2, _⟩ := back_in k0 g ho a.ok (f1.trans a.fr) a.pr
      exact (show ∀ (H' : Hp) (cls : Value) (d : Option Addr), StOk K F (outS as outs) (vs.map some) H' → Fr F (Nn F as (vs.map some)) H (Nn F (outS as outs) (vs.map some)) H' → ErR EC u cls d → E cls d H' from w) H' cls d k2 f2 er
end
end Hg
set_option Elab.async false
set_option linter.all false
namespace Hg
open PySem PySem.Spec PyProof.Rows L2
def argsB (p : Arguments) (ps : List Str) : Bool := match p with
  | ⟨[], as, none, [], [], none, []⟩ => decide (as.map (·.arg) = ps)
  | _ => false
theorem lookup_zip : ∀ {ps : List Str} {us : List Value} {n : Str}, us.length = ps.length → n ∈ ps → ((ps.zip us).lookup n).isNone = false
  | [], _, n, _, h => by cases h
  | p :: ps, [], n, h, _ => by cases h
  | p :: ps, u :: us, n, h, hn => by
    rw [List.zip_cons_cons, List.lookup_cons]
    by_cases e : (n == p) = true
    · rw [e]; rfl
    · have e2 : (n == p) = false := by simpa using e
      rw [e2]
      rcases List.mem_cons.mp hn with z | z
      · rw [z] at e; simp at e
      · exact lookup_zip (by simpa using h) z
theorem zip_back : ∀ {ps : List Str} {us : List Value}, ps.Nodup → us.length = ps.length → ∀ (slots : List (Str × Value)), (∀ n ∈ ps, slots.lookup n = (ps.zip us).lookup n) → ps.filterMap (fun n => (slots.lookup n).map (n, ·)) = ps.zip us
  | [], _, _, _, _, _ => rfl
  | p :: ps, [], _, h, _, _ => by cases h
  | p :: ps, u :: us, nd, h, sl, hs => by
    obtain ⟨n1, n2⟩ := List.nodup_cons.mp nd
    have e1 := hs p List.mem_cons_self
    rw [List.zip_cons_cons, List.lookup_cons] at e1
    have e2 : (p == p) = true := beq_self_eq_true p
    rw [e2] at e1
    have e1 : sl.lookup p = some u := e1
    rw [List.filterMap_cons, e1, List.zip_cons_cons]
    show (p, u) :: _ = _
    rw [zip_back n2 (by simpa using h) sl fun n hn => ?_]
    rw [hs n (List.mem_cons_of_mem _ hn), List.zip_cons_cons, List.lookup_cons]
    have e3 : (n == p) = false := by
      simp only [beq_eq_false_iff_ne, ne_eq]
      intro z
      exact n1 (z ▸ hn)
    rw [e3]
theorem bind_ok {x qual : Str} {params : Arguments} {body : List Stmt} {scope : Scope} {kV doc pm cdv ct : Value} {an : Option Addr} {ps : List Str} {us : List Value} (h : argsB params ps = true) (nd : ps.Nodup) (hl : us.length = ps.length) :
    bindArgs (PySem.W.fnOf x qual params body scope .none kV doc pm an cdv ct) ⟨us, []⟩ = pure (ps.zip us) := by
  unfold argsB at h
  split at h
  · rename_i as
    have e := of_decide_eq_true h
    subst e
    have l2 : us.length = as.length := by simpa using hl
    have miss : (as.map (·.arg)).filter (fun n => (((as.map (·.arg)).zip us).lookup n).isNone) = [] := by
      rw [List.filter_eq_nil_iff]
      intro n hn
      rw [lookup_zip hl hn]
      decide
    unfold bindArgs
    dsimp [PySem.W.fnOf]
    have e0 : seqItems? Value.none = pure none := rfl
    have zb := zip_back nd hl ((as.map (·.arg)).zip us) fun _ _ => rfl
    rw [e0]
    have tk : List.take as.length (as.map (·.arg)) = as.map (·.arg) := List.take_of_length_le (by simp)
    simp [l2]
    refine (if_neg ?_).trans ?_
    · have hL : ∀ L, L = as.map (·.arg) → ¬ (!(List.filter (fun n => (((as.map (·.arg)).zip us).lookup n).isNone) L).isEmpty) = true := by
        rintro L rfl
        rw [miss]
        decide
      exact hL _ (by simpa using tk)
    · refine congrArg pure ?_
      rw [← List.filterMap_map]
      exact zb
  · cases h
end Hg
set_option Elab.async false
set_option linter.all false
set_option maxRecDepth 100000
set_option maxHeartbeats 400000
/-! The teller of refusals: what its text makes of a lambda's end. -/
namespace Hg
open PySem PySem.Spec PyProof.Rows L2 RZ RT
def rN : List Str := ["call", "error", "e", "kinds", "k"]
def rSx (sc : Scope) : Sx := ⟨sc, rN, ["isinstance", "range", "ValueError"], fun _ => none, fun _ => none, fun _ => true, false, fun _ => none, []⟩
def rLc (m : Nat) : Ex := .lc (.rng (.cons (.int m) .nil)) (.name 4) (.ix (.var 3) (.var 4)) (.var 4) [4]
def rC : Cal := ⟨fun _ => [], fun _ _ => .bad, fun _ => none, none⟩
/-! ### the last row reckoned -/
def rS (n : Nat) (b : Nat → Bool) : S := [.un, .un, .un, .sh (.list ((List.range n).map fun j => .bool (b j))), .un]
theorem r_turn {n j : Nat} {b : Nat → Bool} (h : j < n) : ((putT (.name 4) (.int j)).bind fun _ => (testM (evE rC (.ix (.var 3) (.var 4)))).bind fun k => if k then (frz (evE rC (.var 4))).bind fun x => M.pure (some x) else M.pure none) (rS n b) =
    .ok (if b j then some (.int j) else none) ((rS n b).set 4 (.sh (.int j))) := by
  have e1 : putT (.name 4) (.int j) (rS n b) = .ok () ((rS n b).set 4 (.sh (.int j))) := rfl
  have e2 : evE rC (.ix (.var 3) (.var 4)) ((rS n b).set 4 (.sh (.int j))) = .ok (.sh (.bool (b j))) ((rS n b).set 4 (.sh (.int j))) := by
    show lift ((L2.atI ((List.range n).map fun j => PyData.bool (b j)) (j : Int)).map Sl.sh) _ = _
    rw [atI_nat (v := PyData.bool (b j)) (by rw [List.getElem?_map, List.getElem?_range h]; rfl)]
    rfl
  have e3 : testM (evE rC (.ix (.var 3) (.var 4))) ((rS n b).set 4 (.sh (.int j))) = .ok (b j) ((rS n b).set 4 (.sh (.int j))) := by
    unfold testM frz M.bind
    rw [e2]
    rfl
  show ((putT (.name 4) (.int j) (rS n b)).bind fun _ s => ((testM (evE rC (.ix (.var 3) (.var 4)))) s).bind fun k => if k then (frz (evE rC (.var 4))).bind fun x => M.pure (some x) else M.pure none) = _
  rw [e1]
  show ((testM (evE rC (.ix (.var 3) (.var 4)))) _).bind _ = _
  rw [e3]
  cases b j <;> rfl
theorem r_go {n : Nat} {b : Nat → Bool} : ∀ js : List Nat, (∀ j ∈ js, j < n) → lcGo [4] (fun d => (putT (.name 4) d).bind fun _ => (testM (evE rC (.ix (.var 3) (.var 4)))).bind fun k => if k then (frz (evE rC (.var 4))).bind fun x => M.pure (some x) else M.pure none)
    (js.map fun (j : Nat) => PyData.int (j : Int)) (rS n b) = .ok ((js.filter b).map fun (j : Nat) => PyData.int (j : Int)) (rS n b)
  | [], _ => rfl
  | j :: js, h => by
    have ih := r_go (b := b) js fun i hi => h i (List.mem_cons_of_mem _ hi)
    show (((putT (.name 4) (.int j)).bind fun _ => (testM (evE rC (.ix (.var 3) (.var 4)))).bind fun k => if k then (frz (evE rC (.var 4))).bind fun x => M.pure (some x) else M.pure none) (rS n b)).bind (fun o s1 => (lcGo [4] _ (js.map fun (j : Nat) => PyData.int (j : Int)) (wipeS s1 [4])).bind fun r s2 => R.ok (optCons o r) s2) = _
    rw [r_turn (h j List.mem_cons_self)]
    show (lcGo [4] _ (js.map fun (j : Nat) => PyData.int (j : Int)) (rS n b)).bind _ = _
    rw [ih]
    show R.ok _ _ = _
    cases q : b j <;> simp [optCons, q]
theorem r_rng {n : Nat} (h : n < 1000000) : rngD [.int (n : Int)] = some ((List.range n).map fun (i : Nat) => PyData.int (i : Int)) := by
  unfold rngD
  dsimp only
  rw [if_pos ⟨by omega, by omega⟩, Int.toNat_natCast]
theorem r_src {C : Cal} {e : Ex} {s s1 : S} {i : Int} {ds : List D} (h : evE C e s = .ok (.sh (.int i)) s1) (hr : rngD [.int i] = some ds) : evSrc C (.rng (.cons e .nil)) s = .ok ds s1 := by
  show (((evE C e s).bind fun r s' => lift r.data s').bind fun d s1 => R.ok [d] s1).bind (fun ds s1 => lift (rngD ds) s1) = _
  rw [h]
  show lift (rngD [.int i]) s1 = _
  rw [hr]
  rfl
theorem r_lcM {own : List Nat} {turn : D → M (Option D)} {src : M (List D)} {s s1 s2 : S} {ds xs : List D} (h : src s = .ok ds s1) (hc : (own.all (fun i => notOw (s1.getD i .un)) && decide (ds.length < sizeLine)) = true)
    (hg : lcGo own turn ds (wipeS s1 own) = .ok xs s2) : lcM own turn src s = .ok (.ow (.lst xs)) (backS s1 s2 own) := by
  unfold lcM M.bind
  rw [h]
  show (if _ then _ else _ : R Sl) = _
  rw [if_pos hc, hg]
theorem r_val {n : Nat} (b : Nat → Bool) (hn : n < 1000) : evE rC (rLc n) (rS n b) = .ok (.ow (.lst (((List.range n).filter b).map fun (j : Nat) => .int (j : Int)))) (rS n b) := by
  have hr : rngD [.int (n : Int)] = some ((List.range n).map fun (j : Nat) => PyData.int (j : Int)) := r_rng (by omega)
  have e1 : evSrc rC (.rng (.cons (.int (n : Int)) .nil)) (rS n b) = .ok ((List.range n).map fun (j : Nat) => PyData.int (j : Int)) (rS n b) := r_src rfl hr
  have hl : ((List.range n).map fun (j : Nat) => PyData.int (j : Int)).length < sizeLine := by
    rw [List.length_map, List.length_range]
    exact Nat.lt_of_lt_of_le hn (by decide)
  have z := r_lcM e1 (by rw [Bool.and_eq_true]; exact ⟨rfl, decide_eq_true hl⟩) (r_go (n := n) (b := b) (List.range n) fun j hj => List.mem_range.mp hj)
  exact z
/-! ### the text's shape -/
def isB (n : Str) : Expr → Bool
  | .Call (.Name f _) [.Name y _, .Name c _] kw _ => kw.isEmpty && decide (f = "isinstance") && decide (y = "error") && decide (c = n)
  | _ => false
def isBs (cs : List Str) : Nat → List Expr → Bool
  | _, [] => true
  | j, e :: es => (match cs[j]? with
    | some n => isB n e
    | none => false) && isBs cs (j + 1) es
def endB (cs : List Str) (sc : Scope) : List Stmt → Bool
  | [.If (.UnaryOp .Not iv _) [.Return (some (.Constant .none _ _)) _] [] _, .Return (some e) _] => isB "ValueError" iv && chE (rSx sc) (rLc cs.length) e
  | _ => false
def moreB (cs : List Str) (sc : Scope) : Nat → List Stmt → Bool
  | j, st :: r => (match st with
    | .Assign [.Name k1 _] (.BinOp (.Name k2 _) op (.List es _) _) _ => decide (k1 = "kinds") && decide (k2 = "kinds") && decide (op = .Add) && decide (j + es.length < 100) && isBs cs j es && moreB cs sc (j + es.length) r
    | _ => decide (j = cs.length) && endB cs sc (st :: r))
  | _, [] => false
def refB (re : Str) (cs : List Str) (sc : Scope) : List Stmt → Bool
  | .Assign [.Name e1 _] (.Constant .none _ _) _ :: .Try [.Expr (.Call (.Name a _) [] kw _) _] [.ExceptHandler (some (.Name c _)) (some n) [.Assign [.Name y _] (.Name n2 _) _] _] [] [] _ :: .Assign [.Name k _] (.List es _) _ :: r =>
    decide (e1 = "error") && kw.isEmpty && decide (a = "call") && decide (c = re) && decide (n = "e") && decide (y = "error") && decide (n2 = "e") && decide (k = "kinds") && decide (es.length < 100) && isBs cs 0 es && moreB cs sc es.length r
  | _ => false
/-- names that the text takes from elsewhere -/
def refS (re : Str) (cs : List Str) (sc : Scope) : Bool := fnScB0 sc && (re :: "isinstance" :: "ValueError" :: cs).all (fun n => glB sc n && okName n) && decide (cs.length < 100) && decide (sc.names.lookup ("e" : Str) = some .local) && visB sc "error" && visB sc "kinds" && visB sc "call" && noFree sc "error" && noFree sc "kinds"
where
  fnScB0 (sc : Scope) : Bool := decide (sc.kind = .function)
  noFree (sc : Scope) (n : Str) : Bool := decide (sc.names.lookup n = some .local) || decide (sc.names.lookup n = some .cell)
/-! ### what stands of the classes -/
structure RefF (K : PySem.W.Frag) (mg : Str → Option Value) (EC : Nat → Addr) (re : Str) (cs : List Str) (ks : List Nat) : Prop where
  free : mg "isinstance" = none ∧ mg "range" = none ∧ mg "ValueError" = none
  re : ∃ RE, mg re = some (.ref RE) ∧ ∀ c k, ks[c]? = some k → PySem.W.exmOne K (.ref (EC c)) (.ref RE) = some true
  cl : ∀ j n, cs[j]? = some n → ∃ D, mg n = some (.ref D) ∧ PySem.W.kitOne K (.type "NoneType") (.ref D) = some false ∧ ∀ c k, ks[c]? = some k → PySem.W.kitOne K (.ref (EC c)) (.ref D) = some (decide (j = k))
  exc : ∀ c k, ks[c]? = some k → ExcC K (EC c) ∧ PySem.W.kitOne K (.ref (EC c)) (.type "ValueError") = some true ∧ k < cs.length
/-! ### the rest of the text, the error's tests known -/
section
variable {Y : Cx} {v : V} {cs : List Str} {b : Nat → Bool} {bv : Bool}
def IsE (Y : Cx) (v : V) (n : Str) (r : Bool) : Prop := ∀ (p1 p2 p3 p4 : Pos), PE Y (.Call (.Name "isinstance" p1) [.Name "error" p2, .Name n p3] [] p4) (fun σ H Q => σ[1]? = some (some v) ∧ Q (.bl r) H)
theorem isB_ok {n : Str} {r : Bool} {e : Expr} (h : IsE Y v n r) (q : isB n e = true) : noStar e = true ∧ PE Y e (fun σ H Q => σ[1]? = some (some v) ∧ Q (.bl r) H) := by
  unfold isB at q
  split at q
  · simp only [Bool.and_eq_true, decide_eq_true_eq] at q
    obtain ⟨⟨⟨q1, rfl⟩, rfl⟩, rfl⟩ := q
    cases kw_nil q1
    exact ⟨rfl, h _ _ _ _⟩
  · cases q
theorem isBs_ok (h : ∀ j n, cs[j]? = some n → IsE Y v n (b j)) : ∀ {es : List Expr} {j : Nat}, isBs cs j es = true → PA Y es (fun σ H Q => σ[1]? = some (some v) ∧ Q ((List.range' j es.length).map fun i => V.bl (b i)) H)
  | [], j, _ => ⟨fun pos pins s σ H Q I w => (pa_nil (X := Y)).run pos pins s σ H Q I w.2⟩
  | e :: es, j, q => by
    have q : ((match cs[j]? with
      | some n => isB n e
      | none => false) && isBs cs (j + 1) es) = true := q
    rw [Bool.and_eq_true] at q
    cases hn : cs[j]? with
    | none => rw [hn] at q; cases q.1
    | some n =>
      rw [hn] at q
      obtain ⟨n1, pe⟩ := isB_ok (h j n hn) q.1
      refine paW (pa_cons pe (isBs_ok h q.2) (star_cons n1 _)) fun σ H Q w => ?_
      exact ⟨w.1, w.1, w.2⟩
/-- what the rest asks, j tests being in the list -/
def tRest (v : V) (n : Nat) (K : PySem.W.Frag) (b : Nat → Bool) (bv : Bool) (j : Nat) : TS := fun D σ H => σ[1]? = some (some v) ∧ σ.length = 5 ∧ Tb K H ∧ (∃ p, σ[3]? = some (some (.ref p)) ∧ H p = some (.lst ((List.range' 0 j).map fun i => .bl (b i)))) ∧
  (bv = false → ∀ H', LamX.ExtN H H' → Tb K H' → D.rt .non H') ∧ (bv = true → ∀ H' p, LamX.ExtN H H' → Tb K H' → Np H p → H' p = some (.lst (((List.range n).filter b).map fun (i : Nat) => .int (i : Int))) → D.rt (.ref p) H')
theorem ext_new {H : Hp} {p : Addr} {o : HO} (h : H p = none) : LamX.ExtN H (upd H p o) := .of fun b u e => by rw [upd_ne (ne_of_none e h)]; exact e
theorem rps_bools {K : PySem.W.Frag} {H : Hp} {b : Nat → Bool} : ∀ js : List Nat, RpA K H (js.map fun i => V.bl (b i)) (js.map fun i => PyData.bool (b i))
  | [] => .nil
  | _ :: js => .cons (.bl _) (rps_bools js)
theorem rps_ints {K : PySem.W.Frag} {H : Hp} {xs : List V} : ∀ {js : List Nat}, RpA K H xs (js.map fun (i : Nat) => PyData.int (i : Int)) → xs = js.map fun (i : Nat) => V.int (i : Int)
  | [], h => by cases h; rfl
  | j :: js, h => by
    cases h with
    | cons a r =>
      cases a
      rw [rps_ints r] <;> rfl
theorem end_ok {EC : Nat → Addr} {st : List Stmt} {sc : Scope} (hsc : Y.env.scope = sc) (hN : Y.N = rN) (hk : sc.kind = .function) (hc : Y.calm = true) (hroom : Room 0 Y.A) (hun : Y.A.units + 65 < cLine) (hfn : ∀ n, Y.fn n = true) (hn : cs.length < 100)
    (hfree : Y.mg "isinstance" = none ∧ Y.mg "range" = none ∧ Y.mg "ValueError" = none) (hV : IsE Y v "ValueError" bv) (q : endB cs sc st = true) : PSs Y st (tRest v cs.length Y.K b bv cs.length) := by
  unfold endB at q
  split at q
  · rename_i iv p1 j2 p2 p3 p4 e p5
    rw [Bool.and_eq_true] at q
    obtain ⟨q1, q2⟩ := q
    obtain ⟨n1, pv1⟩ := isB_ok hV q1
    have nd : Y.N.Nodup := by rw [hN]; decide
    have cx : Ctx EC rC 0 Y WF (rSx sc) := by
      refine ⟨hsc, hN, by rw [hsc]; exact hk, nd, hc, takes0, hroom, hun, fun n hx => ?_, fun f n z => (nomatch z), fun n d z => (nomatch z), fun n _ => hfn n, (fun z => nomatch z), (fun z => nomatch z), (fun z => nomatch z), fun _ _ z => nomatch z⟩
      have hx : n ∈ (["isinstance", "range", "ValueError"] : List Str) := by simpa [rSx] using hx
      rcases List.mem_cons.mp hx with rfl | hx
      · exact hfree.1
      · rcases List.mem_cons.mp hx with rfl | hx
        · exact hfree.2.1
        · rw [List.mem_singleton.mp hx]
          exact hfree.2.2
    have pl := (sndE EC rC 0 (rLc cs.length) Y WF (rSx sc) e cx q2).2.1
    have he : ∀ whole, isTrue iv Y.env whole = (do let v ← whole; standAt iv.pos; holding [v] (truthy v)) := by
      unfold isB at q1
      split at q1
      · intro _; rfl
      · cases q1
    refine pssW (pss_cons (ps_if (pt_not (pt_val pv1 he)) (pss_one (ps_ret pe_non)) pss_nil) (pss_one (ps_ret pl))) fun D σ H ⟨w1, w2, wt, ⟨p, w3, w4⟩, w5, w6⟩ => ?_
    refine ⟨w1, _, rfl, ?_⟩
    cases bv with
    | false => exact w5 rfl H (.refl H) wt
    | true =>
      show ∃ F s, StOk Y.K F s σ H ∧ Wp Y.K EC WF F s σ H (evE rC (rLc cs.length) s) fun r s' => ∀ v H', AftS Y.K F s σ H r s' v H' → D.rt v H'
      have w4 : H p = some (.lst ((List.range cs.length).map fun i => .bl (b i))) := by rw [List.range_eq_range']; exact w4
      have noOwn : ∀ c, ¬ Own (rS cs.length b) σ c := fun c ⟨i, o, z, _⟩ => by
        match i, z with
        | 0, z => cases z
        | 1, z => cases z
        | 2, z => cases z
        | 3, z => cases z
        | 4, z => cases z
        | n + 5, z => cases z
      have noN : ∀ c, ¬ Nn (fun _ => False) (rS cs.length b) σ c := fun c z => z.elim id (noOwn c)
      have k : StOk Y.K (fun _ => False) (rS cs.length b) σ H := by
        refine ⟨by rw [w2]; rfl, fun i d z => ?_, fun i o z => ?_, fun i j o o' c z z' _ _ => ?_, fun c _ z => z, fun c z => z.elim, wt⟩
        · match i, z with
          | 0, z => cases z
          | 1, z => cases z
          | 2, z => cases z
          | 3, z =>
            cases z
            exact ⟨.ref p, w3, .lst (.inl (.inl (hid_iff.mpr ⟨noN p, w4⟩))) (rps_bools _)⟩
          | 4, z => cases z
          | n + 5, z => cases z
        · match i, z with
          | 0, z => cases z
          | 1, z => cases z
          | 2, z => cases z
          | 3, z => cases z
          | 4, z => cases z
          | n + 5, z => cases z
        · match i, z with
          | 0, z => cases z
          | 1, z => cases z
          | 2, z => cases z
          | 3, z => cases z
          | 4, z => cases z
          | n + 5, z => cases z
      refine ⟨fun _ => False, rS cs.length b, k, ?_⟩
      rw [r_val b (by omega)]
      rintro vv H' ⟨p', rfl, a⟩
      obtain ⟨xs, e1, e2⟩ := a.at_
      have ex : LamX.ExtN H H' := fun c o z t => (a.fr.imm c o (noN c) t z).1
      refine w6 rfl H' p' ex a.ok.tb (fun o t z => ?_) (by rw [e1, rps_ints e2])
      exact (a.fr.imm p' o (noN p') t z).2 (.inl (.inr rfl))
  · cases q
theorem rb_app {b : Nat → Bool} {j m : Nat} : (List.range' 0 j).map (fun i => V.bl (b i)) ++ (List.range' j m).map (fun i => V.bl (b i)) = (List.range' 0 (j + m)).map fun i => V.bl (b i) := by
  rw [← List.map_append]
  congr 1
  have := List.range'_append (s := 0) (m := j) (n := m) (step := 1)
  simpa using this
theorem more_ok {EC : Nat → Addr} {sc : Scope} (hsc : Y.env.scope = sc) (hN : Y.N = rN) (hk : sc.kind = .function) (hc : Y.calm = true) (hroom : Room 0 Y.A) (hun : Y.A.units + 65 < cLine) (hfn : ∀ n, Y.fn n = true) (hn : cs.length < 100)
    (hfree : Y.mg "isinstance" = none ∧ Y.mg "range" = none ∧ Y.mg "ValueError" = none) (hV : IsE Y v "ValueError" bv) (hI : ∀ j n, cs[j]? = some n → IsE Y v n (b j)) (hloc : Loc sc "kinds") : ∀ {st : List Stmt} {j : Nat}, moreB cs sc j st = true → PSs Y st (tRest v cs.length Y.K b bv j)
  | [], j, q => by cases q
  | st :: r, j, q => by
    unfold moreB at q
    split at q
    · rename_i k1 p1 k2 p2 op es p3 p4 p5
      simp only [Bool.and_eq_true, decide_eq_true_eq] at q
      obtain ⟨⟨⟨⟨⟨rfl, rfl⟩, rfl⟩, q0⟩, q1⟩, q2⟩ := q
      have ih := more_ok hsc hN hk hc hroom hun hfn hn hfree hV hI hloc (EC := EC) q2
      have h3 : Y.N[3]? = some ("kinds" : Str) := by rw [hN]; rfl
      have nd : Y.N.Nodup := by rw [hN]; decide
      have vis : Vis Y.env.scope "kinds" := by rw [hsc]; exact hloc.elim .inl fun z => .inr (.inl z)
      refine pssW (pss_cons (ps_set nd h3 (by rw [hsc]; exact hloc) (pe_op op_cat (pe_var (i := 3) h3 vis) (pe_lst (isBs_ok hI q1))) rfl (.inl (hfn _))) ih) fun D σ H ⟨w1, w2, wt, ⟨p, w3, w4⟩, w5, w6⟩ => ?_
      refine ⟨.ref p, w3, w1, by rw [List.length_map, List.length_range']; exact Nat.le_of_lt (Nat.lt_of_lt_of_le (Nat.lt_of_le_of_lt (Nat.le_add_left _ j) q0) (by decide)), fun p2 hp2 => ?_⟩
      have hne : p ≠ p2 := ne_of_none w4 hp2
      refine ⟨p, p2, _, _, rfl, rfl, by rw [upd_ne hne]; exact w4, upd_same, by rw [List.length_map, List.length_map, List.length_range', List.length_range']; exact Nat.le_of_lt (Nat.lt_of_lt_of_le q0 (by decide)), fun p3 hp3 => ?_⟩
      have x1 := ext_new (o := .lst ((List.range' j es.length).map fun i => V.bl (b i))) hp2
      have x2 := ext_new (o := .lst ((List.range' 0 j).map (fun i => V.bl (b i)) ++ (List.range' j es.length).map fun i => V.bl (b i))) hp3
      have xx := x1.trans x2
      refine ⟨by rw [List.getElem?_set_ne (by decide)]; exact w1, by rw [List.length_set]; exact w2, (wt.new hp2).new hp3, ⟨p3, List.getElem?_set_self (by rw [w2]; decide), by rw [upd_same, rb_app]⟩, fun z H' e t => w5 z H' (xx.trans e) t, fun z H' q e t np h => w6 z H' q (xx.trans e) t (fun o nt y => ?_) h⟩
      exact np o nt (xx q o y nt)
    · rw [Bool.and_eq_true] at q
      cases of_decide_eq_true q.1
      exact end_ok (EC := EC) hsc hN hk hc hroom hun hfn hn hfree hV q.2
/-- the first list too -/
def tFirst (v : V) (n : Nat) (K : PySem.W.Frag) (b : Nat → Bool) (bv : Bool) : TS := fun D σ H => σ[1]? = some (some v) ∧ σ.length = 5 ∧ Tb K H ∧
  (bv = false → ∀ H', LamX.ExtN H H' → Tb K H' → D.rt .non H') ∧ (bv = true → ∀ H' p, LamX.ExtN H H' → Tb K H' → Np H p → H' p = some (.lst (((List.range n).filter b).map fun (i : Nat) => .int (i : Int))) → D.rt (.ref p) H')
theorem first_ok {EC : Nat → Addr} {sc : Scope} {es : List Expr} {r : List Stmt} {p1 p2 p3 : Pos} (hsc : Y.env.scope = sc) (hN : Y.N = rN) (hk : sc.kind = .function) (hc : Y.calm = true) (hroom : Room 0 Y.A) (hun : Y.A.units + 65 < cLine) (hfn : ∀ n, Y.fn n = true) (hn : cs.length < 100)
    (hfree : Y.mg "isinstance" = none ∧ Y.mg "range" = none ∧ Y.mg "ValueError" = none) (hV : IsE Y v "ValueError" bv) (hI : ∀ j n, cs[j]? = some n → IsE Y v n (b j)) (hloc : Loc sc "kinds") (q0 : es.length < 100) (q1 : isBs cs 0 es = true) (q2 : moreB cs sc es.length r = true) :
    PSs Y (.Assign [.Name "kinds" p1] (.List es p2) p3 :: r) (tFirst v cs.length Y.K b bv) := by
  have ih := more_ok hsc hN hk hc hroom hun hfn hn hfree hV hI hloc (EC := EC) q2
  have h3 : Y.N[3]? = some ("kinds" : Str) := by rw [hN]; rfl
  have nd : Y.N.Nodup := by rw [hN]; decide
  refine pssW (pss_cons (ps_set nd h3 (by rw [hsc]; exact hloc) (pe_lst (isBs_ok hI q1)) rfl (.inl (hfn _))) ih) fun D σ H ⟨w1, w2, wt, w5, w6⟩ => ?_
  refine ⟨w1, by rw [List.length_map, List.length_range']; exact Nat.le_of_lt (Nat.lt_of_lt_of_le q0 (by decide)), fun p2 hp2 => ?_⟩
  have xx := ext_new (o := .lst ((List.range' 0 es.length).map fun i => V.bl (b i))) hp2
  refine ⟨by rw [List.getElem?_set_ne (by decide)]; exact w1, by rw [List.length_set]; exact w2, wt.new hp2, ⟨p2, List.getElem?_set_self (by rw [w2]; decide), upd_same⟩, fun z H' e t => w5 z H' (xx.trans e) t, fun z H' q e t np h => w6 z H' q (xx.trans e) t (fun o nt y => np o nt (xx q o y nt)) h⟩
end
theorem filter_one {n k : Nat} (h : k < n) : (List.range n).filter (fun j => decide (j = k)) = [k] := by
  induction n with
  | zero => omega
  | succ n ih =>
    rw [List.range_succ, List.filter_append]
    by_cases e : k = n
    · subst e
      have z : (List.range k).filter (fun j => decide (j = k)) = [] := by
        rw [List.filter_eq_nil_iff]
        intro a ha
        have := List.mem_range.mp ha
        simp
        omega
      rw [z]
      simp
    · rw [ih (by omega)]
      have : ¬ n = k := fun z => e z.symm
      simp [this]
theorem gl_of {sc : Scope} {n : Str} (h : glB sc n = true) : sc.names.lookup n = some .globalImplicit := by
  unfold glB at h
  split at h
  · assumption
  · cases h
section
variable {X : Cx} {EC : Nat → Addr} {re : Str} {cs : List Str} {ks : List Nat} {sg : Scope}
theorem boot_isi : bootBuiltins "isinstance" = some (.builtin "isinstance") := by decide +kernel
theorem boot_ve : bootBuiltins "ValueError" = some (.type "ValueError") := by decide +kernel
theorem isE_of {Y : Cx} {v : V} {n : Str} {r : Bool} {cv : V} {rr : List V → Hp → VK → Prop} (hc : CallR Y (.builtin "isinstance") rr) (hg : Gl Y "isinstance") (hm : Y.mg "isinstance" = none) (hN : Y.N[1]? = some ("error" : Str)) (hv : Vis Y.env.scope "error") (hcl : ∀ p, PE Y (.Name n p) (tC cv))
    (hr : ∀ H Q, Q (.bl r) H → rr [v, cv] H Q) : IsE Y v n r := fun p1 p2 p3 p4 => peW (pe_callB hc hg hm boot_isi (pa_cons (pe_var (i := 1) hN hv) (pa_cons (hcl p3) pa_nil))) fun σ H Q w => ⟨v, w.1, hr H Q w.2⟩
theorem peMono {Y : Cx} {e : Expr} {t : TE} (h : PE Y e t) : PE Y e (fun σ H Q => ∃ Qn : VK, (∀ v H', Qn v H' → Q v H') ∧ t σ H Qn) := ⟨fun pins s σ H Q I ⟨Qn, k, w⟩ => thn (h.run pins s σ H Qn I w) fun u s1 ⟨v, H1, I1, r, q⟩ => ⟨v, H1, I1, r, k v H1 q⟩⟩
theorem refused_gives {q : Str} {x : Str} {g : Addr} {cdg : Value} {bg : List Stmt} (F : RefF X.K X.mg EC re cs ks) (hS : refS re cs sg = true) (hB : refB re cs sg bg = true) (hroom : ∀ (s : Shared), Room 0 (X.A.deeper (envOfC x sg s.heap.objs.size g cdg))) : LamX.GivesTo X rN x sg g cdg bg "call" q (TRef X.K EC ks) := by
  intro f c' s H Q tl act hc h
  unfold refS at hS
  simp only [Bool.and_eq_true, decide_eq_true_eq, List.all_cons, refS.fnScB0, refS.noFree, Bool.or_eq_true] at hS
  obtain ⟨⟨⟨⟨⟨⟨⟨⟨s1, ⟨s2, s3⟩, ⟨s4, s5⟩, ⟨s6, s7⟩, s8⟩, s9⟩, s10⟩, s11⟩, s12⟩, s13⟩, s14⟩, s15⟩ := hS
  obtain ⟨f1, f2, f3⟩ := F.free
  obtain ⟨RE, hre, hex⟩ := F.re
  have glc : ∀ n ∈ cs, sg.names.lookup n = some .globalImplicit ∧ (n == ("__debug__" : Str)) = false := fun n hn => by
    have z := List.all_eq_true.mp s8 n hn
    rw [Bool.and_eq_true] at z
    exact ⟨gl_of z.1, (okName_of z.2).1⟩
  have gl1 : sg.names.lookup ("isinstance" : Str) = some .globalImplicit := gl_of s4
  have gl2 : sg.names.lookup ("ValueError" : Str) = some .globalImplicit := gl_of s6
  have gl3 : sg.names.lookup re = some .globalImplicit := gl_of s2
  have lok : Loc sg "kinds" := s15
  have loe : Loc sg "error" := s14
  have vie : Vis sg "error" := loe.elim .inl fun z => .inr (.inl z)
  have via : Vis sg "call" := by
    unfold visB at s13
    split at s13 <;> first | (exact .inl (by assumption)) | (exact .inr (.inl (by assumption))) | (exact .inr (.inr (by assumption))) | (cases s13)
  have hun : ∀ (s : Shared), (X.A.deeper (envOfC x sg s.heap.objs.size g cdg)).units + 65 < cLine := fun s => by
    have := (hroom s).un
    omega
  have nd : rN.Nodup := by decide
  unfold refB at hB
  split at hB
  · rename_i e1 p1 j1 p2 p3 a p4 kw p5 p6 c p7 n y p8 n2 p9 p10 p11 p12 k p13 es p14 p15 r
    simp only [Bool.and_eq_true, decide_eq_true_eq] at hB
    obtain ⟨⟨⟨⟨⟨⟨⟨⟨⟨⟨rfl, q2⟩, rfl⟩, rfl⟩, rfl⟩, rfl⟩, rfl⟩, rfl⟩, q9⟩, q10⟩, q11⟩ := hB
    cases kw_nil q2
    have fst : ∀ {Y : Cx} {v : V} {b : Nat → Bool} {bv : Bool}, Y.env.scope = sg → Y.N = rN → Y.calm = true → Y.A = X.A.deeper (envOfC x sg s.heap.objs.size g cdg) → (∀ n, Y.fn n = true) → Y.mg = X.mg → IsE Y v "ValueError" bv → (∀ j n, cs[j]? = some n → IsE Y v n (b j)) →
        PSs Y (.Assign [.Name "kinds" p13] (.List es p14) p15 :: r) (tFirst v cs.length Y.K b bv) := fun {Y v b bv} h1 h2 h3 h4 h5 h6 h7 h8 =>
      first_ok (EC := EC) h1 h2 s1 h3 (by rw [h4]; exact hroom s) (by rw [h4]; exact hun s) h5 s9 (by rw [h6]; exact F.free) h7 h8 lok q9 q10 q11
    -- no error
    have h0 : PSs (cxOf C8.CX0 X.prog X.w X.K X.mg X.base rN x sg g cdg X.A X.stack s H C8.E0).nox (.Assign [.Name "kinds" p13] (.List es p14) p15 :: r) (tFirst .non cs.length X.K (fun _ => false) false) :=
      fst (v := .non) rfl rfl rfl rfl (fun _ => rfl) rfl
        (isE_of (cv := .ty "ValueError") call_isi gl1 f1 rfl vie (fun p => pe_bltn gl2 f3 boot_ve rfl) fun H Q w => ⟨.non, .ty "ValueError", _, _, false, rfl, .ty _, .base .non, kit_ty (by decide +kernel), w⟩)
        fun j n hn => by
          obtain ⟨D, d1, d2, _⟩ := F.cl j n hn
          obtain ⟨z1, z2⟩ := glc n (List.mem_of_getElem? hn)
          exact isE_of (cv := .ref D) call_isi gl1 f1 rfl vie (fun p => pe_glob z1 d1 rfl z2) fun H Q w => ⟨.non, .ref D, _, _, false, rfl, .own _, .base .non, d2, w⟩
    let t1 : Addr → Value → Option Addr → TS := fun a cls d D σ H => ∃ c k, cls = .ref (EC c) ∧ d = none ∧ ks[c]? = some k ∧ tFirst (.ref a) cs.length X.K (fun j => decide (j = k)) true D σ H
    have h1 : ∀ (a : Addr) (oe : Obj) (cls : Value) (d : Option Addr) (pn : List (Addr × Obj)), Zc cls d oe → (∃ vs, oe.data = .fields vs) →
        PSs ((cxOf C8.CX0 X.prog X.w X.K X.mg X.base rN x sg g cdg X.A X.stack s H C8.E0).nox.tr ((a, oe) :: pn) (fun _ _ => False)) (.Assign [.Name "kinds" p13] (.List es p14) p15 :: r) (t1 a cls d) := fun a oe cls d pn hz hf => by
      refine ⟨fun pins s2 σ H2 D I w => ?_⟩
      obtain ⟨c, k, rfl, rfl, hk, w⟩ := w
      obtain ⟨x1, x2, x3⟩ := F.exc c k hk
      have hI := call_isK (X := (cxOf C8.CX0 X.prog X.w X.K X.mg X.base rN x sg g cdg X.A X.stack s H C8.E0).nox.tr ((a, oe) :: pn) (fun _ _ => False)) x1 hz hf List.mem_cons_self
      refine (fst (Y := (cxOf C8.CX0 X.prog X.w X.K X.mg X.base rN x sg g cdg X.A X.stack s H C8.E0).nox.tr ((a, oe) :: pn) (fun _ _ => False)) (v := .ref a) (b := fun j => decide (j = k)) (bv := true) rfl rfl rfl rfl (fun _ => rfl) rfl ?_ ?_).run pins s2 σ H2 D I w
      · exact isE_of (cv := .ty "ValueError") hI gl1 f1 rfl vie (fun p => pe_bltn gl2 f3 boot_ve rfl) fun H Q w => ⟨.ty "ValueError", _, true, rfl, fun u r => r, x2, w⟩
      · intro j n hn
        obtain ⟨D, d1, _, d3⟩ := F.cl j n hn
        obtain ⟨z1, z2⟩ := glc n (List.mem_of_getElem? hn)
        exact isE_of (cv := .ref D) hI gl1 f1 rfl vie (fun p => pe_glob z1 d1 rfl z2) fun H Q w => ⟨.ref D, _, _, rfl, fun u r => r, d3 c k hk, w⟩
    refine ⟨_, pss_cons (ps_set (i := 1) nd rfl loe pe_non rfl (.inl rfl)) (pss_tryE (i := 2) (j := 1) (c := .ref RE) (t0 := tFirst .non cs.length X.K (fun _ => false) false) (t1 := t1) (Wout := fun _ _ _ _ => False)
      (tb := fun W D σ H => ∃ Ech : XK, (∀ cls d σ' H', Ech cls d H' → W cls d σ' H') ∧ σ[0]? = some (some (.ref f)) ∧ H c' = some (LamX.CodeO c' q) ∧ ∃ Qn : VK, (∀ v H', Qn v H' → D.nx σ H') ∧ tl Ech H Qn)
      rfl rfl nd rfl s10 rfl loe rfl (by decide) (by decide) ⟨gl3, (okName_of s3).1, .inl hre⟩ takes0 (fun W pn xe tk _ => ?_) h0 h1), ?_⟩
    · refine ⟨fun pins s' σ H' D I h' => ?_⟩
      obtain ⟨Ech, hW, h1, h2, h3⟩ := h'
      have hp := act W pn xe Ech p4 p5 tk hW
      have hq := pss_one (ps_expr (pos := p6) (peMono hp))
      obtain ⟨Qn, h4, h5⟩ := h3
      exact hq.run pins s' σ H' D I ⟨Qn, fun v H' w => h4 v H' w, h1, h2, h5⟩
    · have len : ((L2.start rN [V.ref f]).set 1 (some .non)).length = 5 := rfl
      refine ⟨fun cls d H' => ∃ (c k : Nat), cls = .ref (EC c) ∧ d = none ∧ ks[c]? = some k ∧ Tb X.K H' ∧ ∀ H'' p, LamX.ExtN H' H'' → Tb X.K H'' → Np H' p → H'' p = some (.lst [.int k]) → Q (.ref p) H'', fun cls d σ' H' ⟨c, k, z1, z2, z3, z4, z5⟩ hl => ⟨true, by rw [z1]; exact hex c k z3, fun _ a na => ?_, fun z => nomatch z⟩, rfl, hc, ?_⟩
      · have hl : σ'.length = 5 := hl
        refine ⟨c, k, z1, z2, z3, ?_, by rw [List.length_set, List.length_set, List.length_set]; exact hl, z4, (fun z => nomatch z), fun _ H'' p e t np hp => ?_⟩
        · rw [List.getElem?_set_ne (by decide)]
          exact List.getElem?_set_self (by rw [List.length_set, hl]; decide)
        · rw [filter_one (F.exc c k z3).2.2] at hp
          exact z5 H'' p e t np hp
      · exact ⟨_, fun v H' w => ⟨rfl, rfl, w.1, fun _ => w.2, fun z => nomatch z⟩, h⟩
  · cases hB
end
end Hg
set_option Elab.async false
set_option linter.all false
set_option maxRecDepth 100000
set_option maxHeartbeats 400000
/-! A whole text: its defs by their runs, its head. -/
namespace Hg
open PySem PySem.Spec PyProof.Rows L2 RZ RT
/-- a def of the text: its term, its statement, its own name, its qualified name -/
structure Tp where
  fd : Fd
  st : Stmt
  x : Str
  q : Str
structure Pg where
  ds : List Tp
  con : List (Str × D)
  free : List Str
  exs : List Str
  /-- tellers of refusals: which def, the class that they catch, the classes that they tell, the errors' numbers -/
  rf : List (Nat × Str × List Str × List Nat)
  /-- the module's tables, by text -/
  tbs : List (Str × List (Str × Int))
noncomputable def Pg.pr (g : Pg) : Pr := ⟨g.ds.map (·.fd), fun n => g.con.lookup n⟩
def Pg.sx (g : Pg) (t : Tp) : Sx := ⟨defScope t.st, t.fd.N, g.free, fun i => g.ds[i]?.map (·.fd.name), fun c => g.exs[c]?, fun _ => true, !g.rf.isEmpty, fun r => (g.rf.lookup r).map (·.2.2), g.tbs⟩
def Tp.ps (t : Tp) : List Str := t.fd.N.take t.fd.io.length
def fnScB (N P : List Str) (sc : Scope) : Bool := (match sc.kind with | .function => true | _ => false) && !sc.isCoroutine && !sc.isGenerator && decide N.Nodup && decide (N.take P.length = P) &&
  (P.all fun x => match sc.names.lookup x with | some .local => true | some .cell => true | _ => false) && (sc.names.all fun y => match y.2 with | .free => false | _ => true)
theorem fnSc_of {N P : List Str} {sc : Scope} (h : fnScB N P sc = true) : FnScope N P sc := by
  unfold fnScB at h
  simp only [Bool.and_eq_true, decide_eq_true_eq, Bool.not_eq_true'] at h
  obtain ⟨⟨⟨⟨⟨⟨h1, h2⟩, h3⟩, h4⟩, h5⟩, h6⟩, h7⟩ := h
  refine ⟨?_, h2, h3, h4, h5, fun x hx => ?_, fun y hy e => ?_⟩
  · split at h1
    · assumption
    · cases h1
  · have z := List.all_eq_true.mp h6 x hx
    split at z
    · exact .inl (by assumption)
    · exact .inr (by assumption)
    · cases z
  · have z := List.all_eq_true.mp h7 y hy
    rw [e] at z
    cases z
/-- a def that is not read -/
def isBad : Sts → Bool
  | .cons (.exp (.dic .nil (.cons .non .nil))) .nil => true
  | _ => false
def Pg.okDef (g : Pg) (t : Tp) : Bool := (isBad t.fd.body || chSts (g.sx t) t.fd.body (defBody t.st)) && fnScB t.fd.N t.ps (defScope t.st) && decide (t.fd.io.length ≤ t.fd.N.length) && argsB (defArgs t.st) t.ps
def Pg.okRef (g : Pg) (r : Nat × Str × List Str × List Nat) : Bool := match g.ds[r.1]? with
  | some t => refS r.2.1 r.2.2.1 (defScope t.st) && refB r.2.1 r.2.2.1 (defScope t.st) (defBody t.st) && argsB (defArgs t.st) ["call"] && fnScB rN ["call"] (defScope t.st) && decide (t.x = t.fd.name) && decide (t.q = t.fd.name) && visB (defScope t.st) "call"
  | none => false
def Pg.chk (g : Pg) : Bool := g.ds.all g.okDef && g.rf.all g.okRef && (g.rf.isEmpty || (g.free.contains "isinstance" && g.free.contains "range" && g.free.contains "ValueError"))
/-! ### constants -/
mutual
def vB (K : PySem.W.Frag) : D → Value → Bool
  | .none, u => match u with
    | .none => true
    | _ => false
  | .bool b, u => match u with
    | .bool c => b == c
    | _ => false
  | .int i, u => match u with
    | .int j _ => decide (i = j)
    | _ => false
  | .str x, u => match u with
    | .str y _ => decide (x = y)
    | _ => false
  | .tuple ds, u => match u with
    | .ref a => match K.lookup a with
      | some ⟨.type c, _, .seq its _, _⟩ => decide (c = "tuple") && decide (its.size ≤ sizeLine) && vBs K ds its.toList
      | _ => false
    | _ => false
  | .list _, _ => false
  | .dict _, _ => false
def vBs (K : PySem.W.Frag) : List D → List Value → Bool
  | [], us => us.isEmpty
  | d :: ds, us => match us with
    | u :: us => vB K d u && vBs K ds us
    | [] => false
end
mutual
theorem vB_ok {K : PySem.W.Frag} : ∀ {d : D} {u : Value}, vB K d u = true → ∃ v, RelV v u ∧ ∀ H, Rp K H v d
  | .none, u, h => by
    unfold vB at h
    split at h
    · exact ⟨.non, rfl, fun _ => .non⟩
    · cases h
  | .bool b, u, h => by
    unfold vB at h
    split at h
    · cases (beq_iff_eq.mp h)
      exact ⟨.bl _, rfl, fun _ => .bl _⟩
    · cases h
  | .int i, u, h => by
    unfold vB at h
    split at h
    · cases (of_decide_eq_true h)
      exact ⟨.int _, ⟨_, rfl⟩, fun _ => .int _⟩
    · cases h
  | .str x, u, h => by
    unfold vB at h
    split at h
    · cases (of_decide_eq_true h)
      exact ⟨.str _, ⟨_, rfl⟩, fun _ => .str _⟩
    · cases h
  | .tuple ds, u, h => by
    unfold vB at h
    split at h
    · rename_i a
      split at h
      · rename_i c od its n sl e
        rw [Bool.and_eq_true, Bool.and_eq_true] at h
        obtain ⟨⟨h1, h2⟩, h3⟩ := h
        obtain ⟨vs, r, k⟩ := vBs_ok h3
        exact ⟨.ref a, rfl, fun H => .tup (.inr ⟨_, its, n, e, congrArg Value.type (of_decide_eq_true h1), rfl, of_decide_eq_true h2, r⟩) (k H)⟩
      · cases h
    · cases h
  | .list _, u, h => by unfold vB at h; cases h
  | .dict _, u, h => by unfold vB at h; cases h
theorem vBs_ok {K : PySem.W.Frag} : ∀ {ds : List D} {us : List Value}, vBs K ds us = true → ∃ vs, Vals vs us ∧ ∀ H, RpA K H vs ds
  | [], us, h => by
    unfold vBs at h
    rw [List.isEmpty_iff] at h
    subst h
    exact ⟨[], .nil, fun _ => .nil⟩
  | d :: ds, us, h => by
    unfold vBs at h
    split at h
    · rw [Bool.and_eq_true] at h
      obtain ⟨v, r, k⟩ := vB_ok h.1
      obtain ⟨vs, r2, k2⟩ := vBs_ok h.2
      exact ⟨v :: vs, .cons r r2, fun H => .cons (k H) (k2 H)⟩
    · cases h
end
def conB (K : PySem.W.Frag) (p : Str × D) : Bool := match PySem.W.nsIn K mainGlobals p.1 with
  | some (some u) => vB K p.2 u
  | _ => false
def exB (con : List (Str × D)) (K : PySem.W.Frag) : Bool := con.all (conB K)
/-! ### the classes of errors -/
def Pg.ec (g : Pg) (K : PySem.W.Frag) (c : Nat) : Addr := He.ga K (g.exs.getD c Str.empty)
def eqV (a b : Option (Option Value)) : Bool := decide (a = b)
def clsB (K : PySem.W.Frag) (D : Addr) : Bool :=
  eqV (PySem.W.findIn K (.ref D) "__getattribute__") (some (some (.builtin "BaseException.__getattribute__"))) && eqV (PySem.W.findIn K (.ref D) "__getattr__") (some none) && decide (PySem.W.subIn K (.ref D) (.type "BaseException") = some true) && PySem.W.hasDictIn K D &&
  eqV (PySem.W.findIn K (.ref D) "__class__") (some (some (.builtin "object.__class__"))) && eqV (PySem.W.specialIn K (.builtin "object.__class__") "__get__") (some (some (.builtin "getset_descriptor.__get__"))) && decide (PySem.W.takesIn K (.builtin "object.__class__") = some true) &&
  decide (PySem.W.mroIn K D (.type "object") = some true)
theorem clsB_ok {K : PySem.W.Frag} {D : Addr} (h : clsB K D = true) : ExcC K D := by
  unfold clsB eqV at h
  simp only [Bool.and_eq_true, decide_eq_true_eq] at h
  obtain ⟨⟨⟨⟨⟨⟨⟨h1, h2⟩, h3⟩, h4⟩, h5⟩, h6⟩, h7⟩, h8⟩ := h
  exact ⟨h1, h2, h3, h4, h5, h6, h7, h8⟩
def Pg.rfB (g : Pg) (K : PySem.W.Frag) (r : Nat × Str × List Str × List Nat) : Bool :=
  (He.Fa.glo r.2.1).ok K && (r.2.2.1.all fun n => (He.Fa.glo n).ok K && decide (PySem.W.kitOne K (.type "NoneType") (.ref (He.ga K n)) = some false)) &&
  (List.range r.2.2.2.length).all fun c => decide (PySem.W.exmOne K (.ref (g.ec K c)) (.ref (He.ga K r.2.1)) = some true) && clsB K (g.ec K c) && decide (PySem.W.kitOne K (.ref (g.ec K c)) (.type "ValueError") = some true) && decide (r.2.2.2.getD c 0 < r.2.2.1.length) &&
    (List.range r.2.2.1.length).all fun j => decide (PySem.W.kitOne K (.ref (g.ec K c)) (.ref (He.ga K (r.2.2.1.getD j Str.empty))) = some (decide (j = r.2.2.2.getD c 0)))
/-! ### the hook -/
def Tp.dd (t : Tp) : He.DefD := ⟨(t.fd.name, none), t.x, t.q, defArgs t.st, defBody t.st, defScope t.st, [], []⟩
def Pg.fn (g : Pg) : List He.DefD := g.ds.map Tp.dd
def Pg.fa (g : Pg) : List He.Fa := (g.ds.map fun t => .glo t.fd.name) ++ ((g.exs.map .glo) ++ ((g.exs.map .exc) ++ g.free.map .free))
/-- each table bears one name -/
def oneB (K : PySem.W.Frag) : Bool := (cods K).all fun a => (cods K).all fun b => !(a.2.1 == b.2.1) || decide (a.2.2 = b.2.2)
def hdB (K : PySem.W.Frag) : Bool := (cods K).all fun c => PySem.W.codeHdIn K c.1 c.2.1
/-- no error's class is another one's -/
def Pg.exmB (g : Pg) (K : PySem.W.Frag) : Bool := (List.range g.exs.length).all fun c => (List.range g.exs.length).all fun c' => decide (PySem.W.exmOne K (.ref (g.ec K c)) (.ref (g.ec K c')) = some (decide (c = c')))
/-- a table's values -/
def tabB (K : PySem.W.Frag) (t : Str × List (Str × Int)) : Bool := (He.Fa.glo t.1).ok K && t.2.all fun q => match PySem.W.nsIn K (He.ga K t.1) q.1 with
  | some (some (.int j _)) => decide (j = q.2)
  | _ => false
def moreOf (g : Pg) (K : PySem.W.Frag) : Bool := exB g.con K && (g.rf.all (g.rfB K) && (oneB K && (hdB K && (g.exmB K && g.tbs.all (tabB K)))))
def emptyB (h : Addr → Option Obj) (K : PySem.W.Frag) : Bool := (cods K).all fun c => match h c.2.1 with
  | some o => He.emptyTab o
  | none => false
abbrev AlC : Type := (He.AlD × List (Option (List (Option (Str × Int))))) × Bool
def Pg.obsK (g : Pg) (h : Addr → Option Obj) (K : PySem.W.Frag) : AlC := ((He.obsD g.fa g.fn K, g.tbs.map fun t => He.dicW K (He.ga K t.1)), moreOf g K && emptyB h K)
def Pg.valC (g : Pg) (w : World) : AlC := ((He.valD g.fn, g.tbs.map fun t => some (He.keysIn w.params (t.2.map (·.1)))), true)
def Pg.obsG (g : Pg) (n : Nat) (h : Addr → Option Obj) : AlC := g.obsK h (He.frT h (He.asD h n))
structure SaysC (g : Pg) (w : World) (h : Heap) (K : PySem.W.Frag) : Prop where
  d : He.SaysD g.fa g.fn K
  tab : (g.tbs.map fun t => He.dicW K (He.ga K t.1)) = g.tbs.map fun t => some (He.keysIn w.params (t.2.map (·.1)))
  more : moreOf g K = true
  out : ∀ c ∈ cods K, K.lookup c.2.1 = none
  empty : ∀ c ∈ cods K, h.get? c.2.1 = some { cls := .none, data := .fields #[] }
theorem saysC_of {g : Pg} {w : World} {h : Heap} {as : List Addr} (e : g.obsK h.get? (He.frT h.get? as) = g.valC w) : SaysC g w h (He.frT h.get? as) := by
  obtain ⟨e1, e2⟩ := Prod.mk.inj e
  obtain ⟨e1, e3⟩ := Prod.mk.inj e1
  rw [Bool.and_eq_true] at e2
  have key : ∀ c ∈ cods (He.frT h.get? as), ∃ o, h.get? c.2.1 = some o ∧ He.emptyTab o = true := fun c hc => by
    have z := List.all_eq_true.mp e2.2 c hc
    cases q : h.get? c.2.1 with
    | none => rw [q] at z; cases z
    | some o => rw [q] at z; exact ⟨o, rfl, z⟩
  refine ⟨e1, e3, e2.1, fun c hc => ?_, fun c hc => ?_⟩
  · obtain ⟨o, q, z⟩ := key c hc
    exact He.frT_none q z
  · obtain ⟨o, q, z⟩ := key c hc
    rw [q, He.emptyTab_eq z]
def Pg.hook (g : Pg) (n : Nat) : PySem.W.Hook where
  α := AlC
  obs := fun s => g.obsG n s.heap.get?
  val := fun w => g.valC w
  says := fun w h => ∃ K : PySem.W.Frag, K.In h ∧ SaysC g w h K
  of := fun _ _ e => ⟨_, He.frT_in, saysC_of e⟩
  keeps := fun _ _ _ ⟨K, hK, c⟩ k => ⟨K, PySem.W.Frag.In.keeps hK k, ⟨c.d, c.tab, c.more, c.out, fun p hp => k _ _ (c.empty p hp)⟩⟩
theorem Pg.obsG_eq {g : Pg} {n : Nat} {h : Addr → Option Obj} {s : Shared} (e : ∀ a, h a = s.heap.get? a) : g.obsG n h = (g.hook n).obs s := by
  have e : h = s.heap.get? := funext e
  rw [e] <;> rfl
/-! ### what stands of the text -/
structure Facts (g : Pg) (w : World) (K : PySem.W.Frag) (mg : Str → Option Value) : Prop where
  fn : ∀ (i : Nat) (t : Tp), g.ds[i]? = some t → mg t.fd.name = some (.ref (He.ga K t.fd.name)) ∧ ∃ fd, FunD K t.x t.q (defArgs t.st) (defBody t.st) (defScope t.st) [] [] (He.ga K t.fd.name) fd
  free : ∀ n, g.free.contains n = true → mg n = none
  con : ∀ n d, g.con.lookup n = some d → ∃ v u, mg n = some u ∧ RelV v u ∧ ∀ H, Rp K H v d
  exc : ∀ (c : Nat) (n : Str), g.exs[c]? = some n → mg n = some (.ref (He.ga K n)) ∧ (He.Fa.exc n).ok K = true
  rf : ∀ r ∈ g.rf, mg r.2.1 = some (.ref (He.ga K r.2.1)) ∧ (∀ n ∈ r.2.2.1, mg n = some (.ref (He.ga K n))) ∧ g.rfB K r = true
  one : oneB K = true
  exm : g.exmB K = true
  tbl : ∀ n tab, g.tbs.contains (n, tab) = true → ∃ d es m, mg n = some (.ref d) ∧ KDict K w d es m ∧ ∀ z, ∃ r, PySem.W.nsIn K d z = some r ∧ match tab.lookup z with
    | some i => ∃ u, r = some u ∧ RelV (.int i) u
    | none => r = none
theorem keys_look {K : PySem.W.Frag} {w : World} {a : Addr} {ks : List Str} (h : He.dicW K a = some (He.keysIn w.params ks)) {z : Str} (hz : z ∉ ks) : PySem.W.nsIn K a z = some none := by
  obtain ⟨es, n, D⟩ := He.dicW_ok h
  have e : es.toList.map He.keyOf = He.keysIn w.params ks := by
    unfold He.dicW at h
    rw [D.at_] at h
    have low := D.low
    have h : (match decide ("dict" = "dict") && ((#[] : Array (Option Value)).isEmpty && !(a == sysModules)) with
      | true => some (es.toList.map He.keyOf)
      | false => none) = some (He.keysIn w.params ks) := h
    rw [low] at h
    exact Option.some.inj h
  have all : ∀ (l : List DictEntry) (ks : List Str), l.map He.keyOf = He.keysIn w.params ks → z ∉ ks → l.find? (·.key.isStr z) = none ∧ l.any (·.refKey) = false := by
    intro l
    induction l with
    | nil => intro ks _ _; exact ⟨rfl, rfl⟩
    | cons d l ih =>
      intro ks h1 h2
      cases ks with
      | nil => cases h1
      | cons k ks =>
        have h1 : He.keyOf d :: l.map He.keyOf = some (k, PyData.keyHash w.params k) :: He.keysIn w.params ks := h1
        injection h1 with h3 h4
        obtain ⟨i1, i2⟩ := ih ks h4 fun y => h2 (List.mem_cons_of_mem _ y)
        unfold He.keyOf at h3
        split at h3
        · rename_i x t q
          have hx : x = k := (Prod.mk.inj (Option.some.inj h3)).1
          subst hx
          refine ⟨?_, ?_⟩
          · rw [List.find?_cons, q]
            have nk : (Value.str x t).isStr z = false := by
              have c : x ≠ z := fun y => h2 (y ▸ List.mem_cons_self)
              show (x == z) = false
              exact beq_eq_false_iff_ne.mpr c
            rw [nk]
            exact i1
          · rw [List.any_cons, i2]
            unfold DictEntry.refKey
            rw [q] <;> rfl
        · cases h3
  obtain ⟨a1, a2⟩ := all _ _ e hz
  unfold PySem.W.nsIn
  rw [D.at_]
  show (match es.toList.find? (·.key.isStr z) with
    | some e => some (some e.val)
    | none => if es.toList.any (·.refKey) then none else some none) = _
  rw [a1]
  show (if es.toList.any (·.refKey) then none else some none) = _
  rw [a2]
  rfl
theorem look_not {z : Str} : ∀ {tab : List (Str × Int)}, tab.lookup z = none → z ∉ tab.map (·.1)
  | [], _ => fun h => by cases h
  | (k, v) :: tab, h => fun hm => by
    rw [List.lookup_cons] at h
    cases q : z == k with
    | true => rw [q] at h; cases h
    | false =>
      rw [q] at h
      rcases List.mem_cons.mp hm with e | e
      · have e : z = k := e
        rw [e] at q
        simp at q
      · exact look_not h e
theorem look_mem {z : Str} {i : Int} {tab : List (Str × Int)} (h : tab.lookup z = some i) : (z, i) ∈ tab := by
  obtain ⟨l1, l2, e, _⟩ := List.lookup_eq_some_iff.mp h
  rw [e]
  exact List.mem_append_right _ List.mem_cons_self
theorem Pg.facts {g : Pg} {w : World} {K : PySem.W.Frag} {h : Heap} {mg : Str → Option Value} (X : K.In h) (G : h.Ns mainGlobals mg) (c : SaysC g w h K) : Facts g w K mg := by
  have c1 : He.SaysD g.fa g.fn K := c.d
  have al : ∀ f ∈ g.fa, f.ok K = true := fun f hf => by
    obtain ⟨i, hi, e⟩ := List.getElem_of_mem hf
    exact c1.fact i (by rw [List.getElem?_eq_getElem hi, e])
  have cm := c.more
  unfold moreOf at cm
  rw [Bool.and_eq_true, Bool.and_eq_true, Bool.and_eq_true] at cm
  have c2 := List.all_eq_true.mp (show g.con.all (conB K) = true from cm.1)
  refine ⟨fun i t ht => ⟨He.glo_ok X G (al _ (List.mem_append_left _ (List.mem_map_of_mem (List.mem_of_getElem? ht)))), ?_⟩, fun n hn => ?_, fun n d hd => ?_, fun cc n hn => ⟨?_, ?_⟩, fun r hr => ?_, cm.2.2.1, ?_, fun n d hd => ?_⟩
  · exact c1.def_ i (d := t.dd) (by unfold Pg.fn; rw [List.getElem?_map, ht]; rfl)
  · exact He.free_ok X G (al _ (List.mem_append_right _ (List.mem_append_right _ (List.mem_append_right _ (List.mem_map_of_mem (by simpa using hn))))))
  · have hm : (n, d) ∈ g.con := by
      obtain ⟨l1, l2, e, _⟩ := List.lookup_eq_some_iff.mp hd
      rw [e]
      exact List.mem_append_right _ List.mem_cons_self
    have z := c2 _ hm
    unfold conB at z
    split at z
    · rename_i u e
      obtain ⟨v, r, k⟩ := vB_ok z
      exact ⟨v, u, PySem.W.mg_of X G e, r, k⟩
    · cases z
  · exact He.glo_ok X G (al _ (List.mem_append_right _ (List.mem_append_left _ (List.mem_map_of_mem (List.mem_of_getElem? hn)))))
  · exact al _ (List.mem_append_right _ (List.mem_append_right _ (List.mem_append_left _ (List.mem_map_of_mem (List.mem_of_getElem? hn)))))
  · have z := List.all_eq_true.mp cm.2.1 r hr
    have z' := z
    unfold Pg.rfB at z'
    rw [Bool.and_eq_true, Bool.and_eq_true] at z'
    refine ⟨He.glo_ok X G z'.1.1, fun n hn => ?_, z⟩
    have y := List.all_eq_true.mp z'.1.2 n hn
    rw [Bool.and_eq_true] at y
    exact He.glo_ok X G y.1
  · have z := cm.2.2.2
    rw [Bool.and_eq_true, Bool.and_eq_true] at z
    exact z.2.1
  · have z := cm.2.2.2
    rw [Bool.and_eq_true, Bool.and_eq_true] at z
    have hn : (n, d) ∈ g.tbs := by simpa using hd
    have y := List.all_eq_true.mp z.2.2 _ hn
    unfold tabB at y
    rw [Bool.and_eq_true] at y
    obtain ⟨y1, y2⟩ := y
    have dw : He.dicW K (He.ga K n) = some (He.keysIn w.params (d.map (·.1))) := List.map_inj_left.mp c.tab _ hn
    obtain ⟨es, m, D⟩ := He.dicW_ok dw
    refine ⟨_, es, m, He.glo_ok X G y1, D, fun z => ?_⟩
    cases q : d.lookup z with
    | none => exact ⟨none, keys_look dw (look_not q), rfl⟩
    | some i =>
      have y3 := List.all_eq_true.mp y2 _ (look_mem q)
      split at y3
      · rename_i j t e
        have e : PySem.W.nsIn K (He.ga K n) z = some (some (.int j t)) := e
        have y3 : j = i := of_decide_eq_true y3
        exact ⟨_, e, _, rfl, ⟨t, by rw [y3]⟩⟩
      · cases y3
/-! ### each def keeps its run's promise -/
section
variable {g : Pg} {P : Program} {w : World} {K : PySem.W.Frag} {mg : Str → Option Value} {base : Heap}
theorem io_at' {f : Nat} {t : Tp} (k : Nat) (h : g.ds[f]? = some t) : (calAt g.pr k).io f = t.fd.io := by
  have e : g.pr.defs[f]? = some t.fd := by
    show (g.ds.map (·.fd))[f]? = _
    rw [List.getElem?_map, h]
    rfl
  rcases k with _ | _ | k <;> (show ((g.pr.defs[f]?.map (·.io)).getD []) = _; rw [e]; rfl)
theorem run_at' {f : Nat} {t : Tp} (k : Nat) (h : g.ds[f]? = some t) : (calAt g.pr (k + 1)).run f = runFd (calAt g.pr k) t.fd := by
  have e : g.pr.defs[f]? = some t.fd := by
    show (g.ds.map (·.fd))[f]? = _
    rw [List.getElem?_map, h]
    rfl
  funext vs
  cases k <;> (show (match g.pr.defs[f]? with
    | some fd => runFd (calAt g.pr _) fd vs
    | none => CR.bad) = _) <;> rw [e]
theorem con_at' (k : Nat) : (calAt g.pr k).con = fun n => g.con.lookup n := by rcases k with _ | _ | k <;> rfl
theorem range_get {l : List Nat} {c k : Nat} (h : l[c]? = some k) : c ∈ List.range l.length ∧ l.getD c 0 = k := by
  refine ⟨List.mem_range.mpr (List.getElem?_eq_some_iff.mp h).1, ?_⟩
  rw [List.getD_eq_getElem?_getD, h]
  rfl
theorem Facts.refF {r : Nat × Str × List Str × List Nat} (T : Facts g w K mg) (hr : r ∈ g.rf) (hf : g.free.contains "isinstance" = true ∧ g.free.contains "range" = true ∧ g.free.contains "ValueError" = true) : RefF K mg (g.ec K) r.2.1 r.2.2.1 r.2.2.2 := by
  obtain ⟨t1, t2, t3⟩ := T.rf r hr
  unfold Pg.rfB at t3
  rw [Bool.and_eq_true, Bool.and_eq_true] at t3
  obtain ⟨⟨_, t4⟩, t5⟩ := t3
  have at_ : ∀ {c k : Nat}, r.2.2.2[c]? = some k → PySem.W.exmOne K (.ref (g.ec K c)) (.ref (He.ga K r.2.1)) = some true ∧ clsB K (g.ec K c) = true ∧ PySem.W.kitOne K (.ref (g.ec K c)) (.type "ValueError") = some true ∧ k < r.2.2.1.length ∧
      ∀ j < r.2.2.1.length, PySem.W.kitOne K (.ref (g.ec K c)) (.ref (He.ga K (r.2.2.1.getD j Str.empty))) = some (decide (j = k)) := fun {c k} h => by
    obtain ⟨m, e⟩ := range_get h
    have z := List.all_eq_true.mp t5 c m
    rw [e] at z
    simp only [Bool.and_eq_true, decide_eq_true_eq] at z
    obtain ⟨⟨⟨⟨z1, z2⟩, z3⟩, z4⟩, z5⟩ := z
    refine ⟨z1, z2, z3, z4, fun j hj => ?_⟩
    exact of_decide_eq_true (List.all_eq_true.mp z5 j (List.mem_range.mpr hj))
  refine ⟨⟨T.free _ hf.1, T.free _ hf.2.1, T.free _ hf.2.2⟩, ⟨_, t1, fun c k h => (at_ h).1⟩, fun j n hn => ?_, fun c k h => ⟨clsB_ok (at_ h).2.1, (at_ h).2.2.1, (at_ h).2.2.2.1⟩⟩
  have hm := List.mem_of_getElem? hn
  have y := List.all_eq_true.mp t4 n hm
  rw [Bool.and_eq_true] at y
  refine ⟨_, t2 n hm, of_decide_eq_true y.2, fun c k h => ?_⟩
  have z := (at_ h).2.2.2.2 j (List.getElem?_eq_some_iff.mp hn).1
  rw [List.getD_eq_getElem?_getD, hn] at z
  exact z
theorem isBad_run {C : Cal} {fd : Fd} (h : isBad fd.body = true) (vs : List Sl) : runFd C fd vs = .bad := by
  unfold isBad at h
  split at h
  · rename_i e
    unfold runFd
    split
    · rw [e]
      rfl
    · rfl
  · cases h
theorem Pg.lev (ck : g.chk = true) (T : Facts g w K mg) (TB : ∀ c ∈ cods K, LamX.TabB base mg c.1 c.2.1) : ∀ (k f : Nat) (t : Tp) (fd : FuncData), g.ds[f]? = some t → FunD K t.x t.q (defArgs t.st) (defBody t.st) (defScope t.st) [] [] (He.ga K t.fd.name) fd →
    FnOk P w K mg base (L2.CX P w) k (He.ga K t.fd.name) fd t.ps (spF K (g.ec K) t.fd.io.length ((calAt g.pr k).run f)) := by
  unfold Pg.chk at ck
  rw [Bool.and_eq_true, Bool.and_eq_true] at ck
  obtain ⟨⟨ck, ckr⟩, ckf⟩ := ck
  have okd : ∀ {f : Nat} {t : Tp}, g.ds[f]? = some t → g.okDef t = true := fun h => List.all_eq_true.mp ck _ (List.mem_of_getElem? h)
  have psl : ∀ {f : Nat} {t : Tp}, g.ds[f]? = some t → t.ps.length = t.fd.io.length := fun {f t} h => by
    have z := okd h
    unfold Pg.okDef at z
    simp only [Bool.and_eq_true, decide_eq_true_eq] at z
    unfold Tp.ps
    rw [List.length_take]
    have := z.1.2
    omega
  have never : ∀ {f : Nat} {t : Tp} {fd : FuncData} {k : Nat}, g.ds[f]? = some t → (∀ as, (calAt g.pr k).run f as = .bad) → FnOk P w K mg base (L2.CX P w) k (He.ga K t.fd.name) fd t.ps (spF K (g.ec K) t.fd.io.length ((calAt g.pr k).run f)) := fun {f t fd k} h hb => by
    refine ⟨fun vs H Q E hs => ?_, fun A outer s H args us vs Q E hr e0 hb' hv hs => ?_⟩
    · obtain ⟨_, _, hl, _⟩ := hs
      rw [psl h]
      exact hl
    · obtain ⟨_, as, _, _, w⟩ := hs
      unfold runR at w
      rw [hb as] at w
      exact w.elim
  intro k
  induction k using Nat.strongRecOn with
  | _ k ih =>
  intro f t fd h F
  match k, ih with
  | 0, ih => exact never h fun _ => rfl
  | k + 1, ih =>
    have z := okd h
    unfold Pg.okDef at z
    simp only [Bool.and_eq_true, decide_eq_true_eq, Bool.or_eq_true] at z
    obtain ⟨⟨⟨z1, z2⟩, z3⟩, z4⟩ := z
    rcases z1 with z1 | z1
    · exact never h fun as => by
        rw [run_at' k h]
        exact isBad_run z1 as
    have S := fnSc_of z2
    obtain ⟨oc, od, dV, kV, doc, pm, an, cdv, ct, osl, rfl, lk, hcd, _, _⟩ := F.ex
    refine fn_of lk hcd S (fun vs H Q E hs => ?_) fun A outer s H vs Q E hr hs => ?_
    · obtain ⟨_, _, hl, _⟩ := hs
      rw [psl h]
      exact hl
    · rw [run_at' k h] at hs
      obtain ⟨Fh, as, hl, k0, w0⟩ := hs
      have fnAt : ∀ j, j ≤ k → ∀ (X : Cx), X.prog = P → X.w = w → X.K = K → X.mg = mg → X.base = base → ∀ (C : Cal), C.io = (calAt g.pr k).io → C.run = (calAt g.pr j).run → ∀ f' n, (g.sx t).fn f' = some n → FnAt X (g.ec K) C j f' n := fun j hj X e1 e2 e3 e4 e5 C e6 e7 f' n hn => by
        obtain ⟨t', ht', rfl⟩ := Option.map_eq_some_iff.mp hn
        obtain ⟨gm, fd', F'⟩ := T.fn f' t' ht'
        have ok' := okd ht'
        unfold Pg.okDef at ok'
        simp only [Bool.and_eq_true, decide_eq_true_eq] at ok'
        refine ⟨_, fd', t'.ps, by rw [e4]; exact gm, by rw [e3]; exact F'.kp, ?_, by rw [e6, io_at' k ht']; exact psl ht', ?_⟩
        · rw [e3]
          exact F'.bindsN fun kV doc pm an cdv ct us hl => bind_ok ok'.2 (by
            have nd := (fnSc_of ok'.1.1.2).nd
            exact nd.sublist (List.take_sublist _ _)) hl
        · rw [e1, e2, e3, e4, e5, e6, e7, io_at' k ht']
          exact ih j (by omega) f' t' fd' ht' F'
      have cx : CtxS (g.ec K) (calAt g.pr k) k (cxOf (L2.CX P w) P w K mg base t.fd.N t.q (defScope t.st) (He.ga K t.fd.name) cdv A outer s H E) (fun cls d _ H' => E cls d H') (g.sx t) := by
        refine ⟨⟨rfl, rfl, S.kind, S.nd, rfl, takes_of rfl rfl rfl rfl, hr, ?_, T.free, fun f' n hn => fnAt k (Nat.le_refl k) _ rfl rfl rfl rfl rfl _ rfl rfl f' n hn, fun n d hd => ?_, fun _ _ => rfl, fun _ => ?_, fun lm run hrun r ks n hk hn => ?_, fun lm run hrun => ?_, fun n tab hn => T.tbl n tab hn⟩, passes_of rfl, fun pn xe c n hn m j p p2 pos hg hdb => ?_, rfl, rfl, fun c n hn => ?_, fun c c' n n' hn hn' => ?_⟩
        · have := hr.un
          show (A.deeper _).units + 65 < cLine
          omega
        · rw [con_at' k] at hd
          exact T.con n d hd
        · obtain ⟨c, rfl⟩ := He.codeIn_ref hcd
          have hm : (c, tabAt K c, t.q ++ ".<locals>." ++ "<lambda>") ∈ cods K := by
            refine List.mem_filterMap.mpr ⟨_, He.lookup_mem lk, ?_⟩
            rfl
          refine ⟨c, tabAt K c, TB _ hm, rfl, List.mem_map.mpr ⟨_, hm, rfl⟩, fun p hp e => ?_⟩
          obtain ⟨q, hq, rfl⟩ := List.mem_map.mp hp
          have z := List.all_eq_true.mp (List.all_eq_true.mp T.one _ hm) q hq
          rw [Bool.or_eq_true] at z
          rcases z with z | z
          · have e : q.2.1 = tabAt K c := e
            rw [e] at z
            simp at z
          · exact (of_decide_eq_true z).symm
        · obtain ⟨t', ht', rfl⟩ := Option.map_eq_some_iff.mp hn
          obtain ⟨rr, hrr, rfl⟩ := Option.map_eq_some_iff.mp hk
          have hmem : (r, rr) ∈ g.rf := by
            obtain ⟨l1, l2, e, _⟩ := List.lookup_eq_some_iff.mp hrr
            rw [e]
            exact List.mem_append_right _ List.mem_cons_self
          have y := List.all_eq_true.mp ckr _ hmem
          unfold Pg.okRef at y
          rw [ht'] at y
          simp only [Bool.and_eq_true, decide_eq_true_eq] at y
          obtain ⟨⟨⟨⟨⟨⟨y1, y2⟩, y3⟩, y4⟩, y5⟩, y6⟩, y7⟩ := y
          obtain ⟨gm, fd', F'⟩ := T.fn r t' ht'
          have S' := fnSc_of y4
          have hf : g.free.contains "isinstance" = true ∧ g.free.contains "range" = true ∧ g.free.contains "ValueError" = true := by
            have lm : (!g.rf.isEmpty) = true := lm
            rw [Bool.or_eq_true] at ckf
            rcases ckf with q | q
            · rw [q] at lm; cases lm
            · simp only [Bool.and_eq_true] at q
              exact ⟨q.1.1, q.1.2, q.2⟩
          have hb := F'.bindsN (ps := ["call"]) fun kV doc pm an cdv ct us hl => bind_ok y3 (by decide) hl
          obtain ⟨oc', od', dV', kV', doc', pm', an', cdv', ct', osl', rfl, lk', hcd', _, _⟩ := F'.ex
          simp only [y5, y6] at lk' hcd' hb
          have k1 : ∃ j, k = j + 2 := by
            rcases k with _ | _ | j
            · cases hrun
            · cases hrun
            · exact ⟨j, rfl⟩
          obtain ⟨j, rfl⟩ := k1
          refine ⟨"call", _, _, _, _, _, _, _, _, _, _, _, _, _, _, rN, gm, F'.kp, lk', hcd', hb, S', rfl, ?_, by decide, by decide, refused_gives (T.refF hmem hf) y1 y2 fun s' => (hr.mono (by omega : 1 ≤ j + 2)).deeper _⟩
          unfold visB at y7
          split at y7 <;> first | (exact .inl (by assumption)) | (exact .inr (.inl (by assumption))) | (exact .inr (.inr (by assumption))) | (cases y7)
        · rcases k with _ | _ | j
          · cases hrun
          · cases hrun
          · refine ⟨j, rfl, fun f' n hn => ?_⟩
            cases hrun
            exact fnAt j (by omega) _ rfl rfl rfl rfl rfl ((calAt g.pr (j + 2)).wr (calAt g.pr j).run) rfl rfl f' n hn
        · obtain ⟨gm, ex⟩ := T.exc c n hn
          obtain ⟨e1, e2, e3, e4⟩ := He.exc_ok ex
          have ec : g.ec K c = He.ga K n := by
            unfold Pg.ec
            rw [List.getD_eq_getElem?_getD, show g.exs[c]? = some n from hn]
            rfl
          rw [ec]
          exact pmk_own PySem.F.excBase_ValueError e1 gm e2 (raises_own e3 e4) hg hdb
        · have ec : g.ec K c = He.ga K n := by
            unfold Pg.ec
            rw [List.getD_eq_getElem?_getD, show g.exs[c]? = some n from hn]
            rfl
          rw [ec]
          exact (T.exc c n hn).1
        · have h1 : c < g.exs.length := (List.getElem?_eq_some_iff.mp (show g.exs[c]? = some n from hn)).1
          have h2 : c' < g.exs.length := (List.getElem?_eq_some_iff.mp (show g.exs[c']? = some n' from hn')).1
          exact of_decide_eq_true (List.all_eq_true.mp (List.all_eq_true.mp T.exm c (List.mem_range.mpr h1)) c' (List.mem_range.mpr h2))
      exact ⟨_, sndSts (g.ec K) (calAt g.pr k) k (ioAt 0 t.fd.io) t.fd.body _ _ _ _ cx z1, body_of k0 w0⟩
end
end Hg
set_option Elab.async false
set_option linter.all false
set_option maxRecDepth 100000
set_option maxHeartbeats 400000
/-! The law's call. -/
namespace Hg
open PySem PySem.Spec PyProof.Rows L2 RZ RT
def lawArg (ns : List Int) : Sl := .sh (.list (ns.map .int))
theorem rpa_ints {K : PySem.W.Frag} {H : Hp} : ∀ ns : List Int, RpA K H (ns.map V.int) (ns.map PyData.int)
  | [] => .nil
  | n :: ns => .cons (.int n) (rpa_ints ns)
theorem sp_law {K : PySem.W.Frag} {EC : Nat → Addr} {run : List Sl → CR} {H : Hp} {a : Addr} {ns : List Int} (h : RdK K H a (ns.map V.int)) (tb : Tb K H) (e : run [lawArg ns] = .ok (.sh (.bool true)) []) :
    spF K EC 1 run [.ref a] H (fun v _ => v = .bl true) fun _ _ _ => False := by
  have no : ∀ b, ¬ Nn (fun _ => False) [lawArg ns] [some (V.ref a)] b := fun b z => z.elim id fun ⟨i, o, e1, _⟩ => by
    cases i with
    | zero => cases (show some (lawArg ns) = some (Sl.ow o) from e1)
    | succ i => simp at e1
  have le : Le H (Hid (Nn (fun _ => False) [lawArg ns] [some (V.ref a)]) H) := fun b o _ z => hid_iff.mpr ⟨no b, z⟩
  refine ⟨fun _ => False, [lawArg ns], rfl, ⟨rfl, fun i d z => ?_, fun i o z => ?_, fun i j o o' p z => ?_, fun b z => (no b (.inr z)).elim, fun b z => z.elim, tb⟩, ?_⟩
  · cases i with
    | zero =>
      cases (show some (lawArg ns) = some (Sl.sh d) from z)
      exact ⟨.ref a, rfl, .lst (le.rdK h) (rpa_ints ns)⟩
    | succ i => simp at z
  · cases i with
    | zero => cases (show some (lawArg ns) = some (Sl.ow o) from z)
    | succ i => simp at z
  · cases i with
    | zero => cases (show some (lawArg ns) = some (Sl.ow o) from z)
    | succ i => simp at z
  · unfold runR
    rw [e]
    intro v H' q
    cases AftD.rp q
    rfl
/-- a law by its run -/
theorem walk_run {g : Pg} {l : PySem.W.OpenLaw} {n k li m : Nat} {t : Tp} {q : Program} {loose : List Str} {XP : (Str → Option Value) → Heap → Prop} {d : DefRec} {x : Str} (ck : g.chk = true) (ht : g.ds[li]? = some t) (hx : t.ps = [x]) (hio : t.fd.io = [false]) (hd0 : d.name = t.fd.name)
    (hn : l.most = some n) (hn2 : n ≤ sizeLine) (hdf : d.params.defaults = []) (hr : Room k callerA) (sem : ∀ ns : List Int, ns.length ≤ n → (∀ z ∈ ns, Builtin.Int.intBits z ≤ 1048576) → (calAt g.pr k).run li [lawArg ns] = .ok (.sh (.bool true)) []) :
    PySem.W.WalkO q loose XP (g.hook m).says l.row.toRowW d [] (fun f vs => PySem.call f vs) := by
  refine Att.attach_callB hn hdf fun w s₀ s₁ mg mb fa o pm cd doc a vs ns G Y ho hd hcd hmg hobj hints hlen hbits hg => ?_
  obtain ⟨K, KX, c⟩ := Y
  have T := g.facts KX G.T.g c
  obtain ⟨gm, fd, F⟩ := T.fn li t ht
  rw [hd0, gm] at hmg
  cases hmg
  have ok : g.okDef t = true := by
    have ck := ck
    unfold Pg.chk at ck
    rw [Bool.and_eq_true, Bool.and_eq_true] at ck
    exact List.all_eq_true.mp ck.1.1 t (List.mem_of_getElem? ht)
  unfold Pg.okDef at ok
  simp only [Bool.and_eq_true, decide_eq_true_eq] at ok
  have rdk : ∀ {H : Hp}, SqL K H a (ns.map V.int) → RdK K H a (ns.map V.int) := fun {H} h => by
    rcases h with h | ⟨u, its, z, e1, _, _, e4, e5, r⟩
    · exact .inl h
    · have e2 := KX _ _ e1
      rw [hobj] at e2
      cases e2
      cases (show Data.seq vs.toArray _ = Data.seq its z from e4)
      exact .inr ⟨vs, e1, by rw [List.size_toArray] at e5; exact e5, by simpa using r⟩
  have tab : ∀ p ∈ (cods K).map (fun c => (c.1, c.2.1)), ∃ e ∈ cods K, p = (e.1, e.2.1) := fun p hp => by
    obtain ⟨e, he, rfl⟩ := List.mem_map.mp hp
    exact ⟨e, he, rfl⟩
  have hd : hdB K = true := by
    have z := c.more
    unfold moreOf at z
    rw [Bool.and_eq_true, Bool.and_eq_true, Bool.and_eq_true, Bool.and_eq_true] at z
    exact z.2.2.2.1
  refine LamX.law_callTs (cs := (cods K).map fun c => (c.1, c.2.1)) (fd := fd) (sp := spF K (g.ec K) t.fd.io.length ((calAt g.pr k).run li)) (x := x) KX G.T.g G.T.b G.T.builtins G.T.nolimit hg (fun p hp => ?_) (fun p hp => ?_) (fun p hp => ?_) G.T.bmain hobj hints (Nat.le_trans hlen hn2) hr (fun base hb hns TB => ?_) (fun s u => ?_) (fun H hT hS => ?_) (CX := L2.CX l.prog w) fun H e s' z => ?_
  · obtain ⟨e, he, rfl⟩ := tab p hp
    exact c.empty e he
  · obtain ⟨e, he, rfl⟩ := tab p hp
    exact c.out e he
  · obtain ⟨e, he, rfl⟩ := tab p hp
    exact PySem.W.codeHd_of_K KX (List.all_eq_true.mp hd e he)
  · have z := g.lev (P := l.prog) (w := w) (base := base) ck T (fun e he => TB (e.1, e.2.1) (List.mem_map.mpr ⟨e, he, rfl⟩)) k li t fd ht F
    rw [hx] at z
    exact z
  · have z := F.bindsA (ps := t.ps) (fun kV doc pm an cdv ct us hl => bind_ok ok.2 ((fnSc_of ok.1.1.2).nd.sublist (List.take_sublist _ _)) hl) s [u] (by rw [hx] <;> rfl)
    rw [hx] at z
    exact z
  · rw [hio]
    refine sp_law (rdk hS) ?_ (sem ns hlen hbits)
    intro p hp
    obtain ⟨e, he, rfl⟩ := List.mem_map.mp hp
    exact LamX.TabS.nil (hT (e.1, e.2.1) (List.mem_map.mpr ⟨e, he, rfl⟩))
  · obtain ⟨_, _, _, _, _, _, _, _, _, _, _, _, z⟩ := z
    exact z.elim
end Hg
set_option Elab.async false
set_option linter.all false
set_option maxRecDepth 100000
set_option maxHeartbeats 0
/-! The terms. -/
namespace Lw
open PySem PySem.Spec PyProof.Rows Hg
def f_is_whole : Fd := ⟨"is_whole", ["thing"], [false],
 .cons (.ret (.and (.cons (.isi (.var 0) [.int]) (.cons (.not (.isi (.var 0) [.bool])) .nil)))) .nil⟩
abbrev i_is_whole : Nat := 0
def f_is_fraction : Fd := ⟨"is_fraction", ["thing"], [false],
 .cons (.ite (.or (.cons (.not (.isi (.var 0) [.tuple])) (.cons (.cmp .NotEq (.bf .len (.cons (.var 0) .nil)) (.int 2)) (.cons (.not (.call 0 (.cons (.ix (.var 0) (.int 0)) .nil))) (.cons (.not (.call 0 (.cons (.ix (.var 0) (.int 1)) .nil))) .nil))))) (.cons (.ret (.bl false)) .nil) (.nil))
 (.cons (.ite (.cmp .Lt (.ix (.var 0) (.int 1)) (.int 1)) (.cons (.ret (.bl false)) .nil) (.nil))
 (.cons (.ret (.cmp .Eq (.call 2 (.cons (.var 0) .nil)) (.int 1))) .nil))⟩
abbrev i_is_fraction : Nat := 1
def f_divisor_of : Fd := ⟨"divisor_of", ["fraction", "one", "other"], [false],
 .cons (.par 1 2 (.bf .abs (.cons (.ix (.var 0) (.int 0)) .nil)) (.ix (.var 0) (.int 1)))
 (.cons (.whl (.cmp .Gt (.var 2) (.int 0)) (.cons (.par 1 2 (.var 2) (.bin .Mod (.var 1) (.var 2))) .nil))
 (.cons (.ret (.var 1)) .nil))⟩
abbrev i_divisor_of : Nat := 2
def f_pen_machine : Fd := ⟨"pen_machine", ["one", "other", "crank", "squares", "place", "side", "steps"], [false, false, false, false, false, false],
 .cons (.asg (.name 6) (.lst (.cons (.tup (.cons (.str "fix") (.cons (.ix (.var 0) (.int 0)) (.cons (.ix (.var 0) (.int 1)) .nil)))) (.cons (.tup (.cons (.str "fix") (.cons (.ix (.var 1) (.int 0)) (.cons (.ix (.var 1) (.int 1)) .nil)))) (.cons (.tup (.cons (.str "crank") (.cons (.int 0) (.cons (.var 2) .nil)))) .nil)))))
 (.cons (.exp (.app 6 (.tup (.cons (.str "pair") (.cons (.int 2) (.cons (.int 1) (.cons (.ix (.var 3) (.int 0)) (.cons (.ix (.var 3) (.int 1)) (.cons (.var 5) .nil)))))))))
 (.cons (.exp (.app 6 (.tup (.cons (.str "like") (.cons (.int 2) (.cons (.int 3) (.cons (.ix (.var 4) (.int 0)) (.cons (.ix (.var 4) (.int 1)) .nil))))))))
 (.cons (.ret (.bf .tuple (.cons (.var 6) .nil))) .nil)))⟩
abbrev i_pen_machine : Nat := 3
def f_is_joint : Fd := ⟨"is_joint", ["thing", "many"], [false, false],
 .cons (.ret (.and (.cons (.call 0 (.cons (.var 0) .nil)) (.cons (.chain .LtE .Lt (.int 0) (.var 0) (.var 1)) .nil)))) .nil⟩
abbrev i_is_joint : Nat := 4
def f_is_above : Fd := ⟨"is_above", ["thing"], [false],
 .cons (.ret (.and (.cons (.call 1 (.cons (.var 0) .nil)) (.cons (.cmp .Gt (.ix (.var 0) (.int 0)) (.int 0)) .nil)))) .nil⟩
abbrev i_is_above : Nat := 5
def f_are_joints : Fd := ⟨"are_joints", ["one", "other", "many"], [false, false, false],
 .cons (.ret (.and (.cons (.call 4 (.cons (.var 0) (.cons (.var 2) .nil))) (.cons (.call 4 (.cons (.var 1) (.cons (.var 2) .nil))) (.cons (.cmp .NotEq (.var 0) (.var 1)) .nil))))) .nil⟩
abbrev i_are_joints : Nat := 6
def f_is_step : Fd := ⟨"is_step", ["step", "ahead"], [false, false],
 .cons (.ite (.or (.cons (.not (.isi (.var 0) [.tuple])) (.cons (.cmp .Eq (.var 0) (.tup (.nil))) (.cons (.not (.isi (.ix (.var 0) (.int 0)) [.str])) .nil)))) (.cons (.ret (.bl false)) .nil) (.nil))
 (.cons (.ite (.cmp .NotEq (.cget "LENGTHS" [("fix", 3), ("crank", 3), ("pair", 6), ("like", 5)] (.ix (.var 0) (.int 0))) (.bf .len (.cons (.var 0) .nil))) (.cons (.ret (.bl false)) .nil) (.nil))
 (.cons (.ite (.cmp .Eq (.ix (.var 0) (.int 0)) (.str "fix")) (.cons (.ret (.and (.cons (.call 1 (.cons (.ix (.var 0) (.int 1)) .nil)) (.cons (.call 1 (.cons (.ix (.var 0) (.int 2)) .nil)) .nil)))) .nil) (.nil))
 (.cons (.ite (.cmp .Eq (.ix (.var 0) (.int 0)) (.str "crank")) (.cons (.ret (.and (.cons (.call 4 (.cons (.ix (.var 0) (.int 1)) (.cons (.bf .len (.cons (.var 1) .nil)) .nil))) (.cons (.cmp .Eq (.ix (.ix (.var 1) (.ix (.var 0) (.int 1))) (.int 0)) (.str "fix")) (.cons (.call 5 (.cons (.ix (.var 0) (.int 2)) .nil)) .nil))))) .nil) (.nil))
 (.cons (.ite (.not (.call 6 (.cons (.ix (.var 0) (.int 1)) (.cons (.ix (.var 0) (.int 2)) (.cons (.bf .len (.cons (.var 1) .nil)) .nil))))) (.cons (.ret (.bl false)) .nil) (.nil))
 (.cons (.ite (.cmp .Eq (.ix (.var 0) (.int 0)) (.str "like")) (.cons (.ret (.and (.cons (.call 1 (.cons (.ix (.var 0) (.int 3)) .nil)) (.cons (.call 1 (.cons (.ix (.var 0) (.int 4)) .nil)) .nil)))) .nil) (.nil))
 (.cons (.ret (.and (.cons (.call 5 (.cons (.ix (.var 0) (.int 3)) .nil)) (.cons (.call 5 (.cons (.ix (.var 0) (.int 4)) .nil)) (.cons (.call 0 (.cons (.ix (.var 0) (.int 5)) .nil)) (.cons (.chain .LtE .LtE (.int 0) (.ix (.var 0) (.int 5)) (.int 1)) .nil)))))) .nil))))))⟩
abbrev i_is_step : Nat := 7
abbrev b1_is_machine : Hg.Sts := .cons (.ite (.not (.call 7 (.cons (.var 1) (.cons (.sl (.var 0) (.non) (.var 2)) .nil)))) (.cons (.ret (.bl false)) .nil) (.nil)) .nil
abbrev l0_is_machine : Hg.St := .fo (.enu (.var 0)) (.tup (.cons (.name 2) (.cons (.name 1) .nil))) (b1_is_machine)
def f_is_machine : Fd := ⟨"is_machine", ["thing", "step", "number"], [false],
 .cons (.ite (.or (.cons (.not (.isi (.var 0) [.tuple])) (.cons (.not (.chain .LtE .LtE (.int 1) (.bf .len (.cons (.var 0) .nil)) (.glo "MOST_STEPS"))) .nil))) (.cons (.ret (.bl false)) .nil) (.nil))
 (.cons (l0_is_machine)
 (.cons (.ret (.bl true)) .nil))⟩
abbrev i_is_machine : Nat := 8
def f__law_cell_at : Fd := ⟨"_law_cell_at", ["script", "k"], [false, false],
 .cons (.ite (.cmp .Lt (.var 1) (.bf .len (.cons (.var 0) .nil))) (.cons (.ret (.ix (.var 0) (.var 1))) .nil) (.nil))
 (.cons (.ret (.int 0)) .nil)⟩
abbrev i__law_cell_at : Nat := 9
def f__law_state : Fd := ⟨"_law_state", ["script", "k", "cell"], [false, false],
 .cons (.asg (.name 2) (.call 9 (.cons (.var 0) (.cons (.var 1) .nil))))
 (.cons (.ite (.cmp .GtE (.var 2) (.bin .Pow (.int 10) (.int 18))) (.cons (.ret (.lst (.cons (.bin .Sub (.var 2) (.bin .Pow (.int 10) (.int 18))) (.cons (.bl true) .nil)))) .nil) (.nil))
 (.cons (.ret (.lst (.cons (.bin .Mod (.var 2) (.int 2147483647)) (.cons (.bl false) .nil)))) .nil))⟩
abbrev i__law_state : Nat := 10
def f__law_take : Fd := ⟨"_law_take", ["state", "many", "found", "mixed"], [true, false],
 .cons (.ite (.ix (.var 0) (.int 1)) (.cons (.asg (.name 2) (.bin .Mod (.ix (.var 0) (.int 0)) (.var 1)))
 (.cons (.six 0 (.int 0) (.bin .FloorDiv (.ix (.var 0) (.int 0)) (.var 1)))
 (.cons (.ret (.var 2)) .nil))) (.nil))
 (.cons (.six 0 (.int 0) (.bin .Mod (.bin .Add (.bin .Mult (.ix (.var 0) (.int 0)) (.int 48271)) (.int 29)) (.int 2147483647)))
 (.cons (.asg (.name 3) (.bin .Mod (.bin .Add (.bin .Add (.bin .Mult (.ix (.var 0) (.int 0)) (.ix (.var 0) (.int 0))) (.bin .Mult (.int 39373) (.ix (.var 0) (.int 0)))) (.int 7)) (.int 2147483629)))
 (.cons (.asg (.name 3) (.bin .Mod (.bin .Add (.bin .Mult (.var 3) (.var 3)) (.bin .Mult (.int 16807) (.var 3))) (.int 2147483587)))
 (.cons (.ret (.bin .Mod (.bin .FloorDiv (.var 3) (.int 8)) (.var 1))) .nil))))⟩
abbrev i__law_take : Nat := 11
def f__law_divisor : Fd := ⟨"_law_divisor", ["one", "other"], [false, false],
 .cons (.asg (.name 0) (.bf .abs (.cons (.var 0) .nil)))
 (.cons (.asg (.name 1) (.bf .abs (.cons (.var 1) .nil)))
 (.cons (.whl (.cmp .Gt (.var 1) (.int 0)) (.cons (.par 0 1 (.var 1) (.bin .Mod (.var 0) (.var 1))) .nil))
 (.cons (.ret (.var 0)) .nil)))⟩
abbrev i__law_divisor : Nat := 12
def f__law_ratio : Fd := ⟨"_law_ratio", ["top", "bottom", "by"], [false, false],
 .cons (.asg (.name 2) (.call 12 (.cons (.var 0) (.cons (.var 1) .nil))))
 (.cons (.ite (.cmp .Lt (.var 1) (.int 0)) (.cons (.asg (.name 2) (.bin .Sub (.int 0) (.var 2))) .nil) (.nil))
 (.cons (.ret (.tup (.cons (.bin .FloorDiv (.var 0) (.var 2)) (.cons (.bin .FloorDiv (.var 1) (.var 2)) .nil)))) .nil))⟩
abbrev i__law_ratio : Nat := 13
def f__law_plus : Fd := ⟨"_law_plus", ["one", "other"], [false, false],
 .cons (.ret (.call 13 (.cons (.bin .Add (.bin .Mult (.ix (.var 0) (.int 0)) (.ix (.var 1) (.int 1))) (.bin .Mult (.ix (.var 1) (.int 0)) (.ix (.var 0) (.int 1)))) (.cons (.bin .Mult (.ix (.var 0) (.int 1)) (.ix (.var 1) (.int 1))) .nil)))) .nil⟩
abbrev i__law_plus : Nat := 14
def f__law_minus : Fd := ⟨"_law_minus", ["one", "other"], [false, false],
 .cons (.ret (.call 13 (.cons (.bin .Sub (.bin .Mult (.ix (.var 0) (.int 0)) (.ix (.var 1) (.int 1))) (.bin .Mult (.ix (.var 1) (.int 0)) (.ix (.var 0) (.int 1)))) (.cons (.bin .Mult (.ix (.var 0) (.int 1)) (.ix (.var 1) (.int 1))) .nil)))) .nil⟩
abbrev i__law_minus : Nat := 15
def f__law_times : Fd := ⟨"_law_times", ["one", "other"], [false, false],
 .cons (.ret (.call 13 (.cons (.bin .Mult (.ix (.var 0) (.int 0)) (.ix (.var 1) (.int 0))) (.cons (.bin .Mult (.ix (.var 0) (.int 1)) (.ix (.var 1) (.int 1))) .nil)))) .nil⟩
abbrev i__law_times : Nat := 16
def f__law_over : Fd := ⟨"_law_over", ["one", "other"], [false, false],
 .cons (.ret (.call 13 (.cons (.bin .Mult (.ix (.var 0) (.int 0)) (.ix (.var 1) (.int 1))) (.cons (.bin .Mult (.ix (.var 0) (.int 1)) (.ix (.var 1) (.int 0))) .nil)))) .nil⟩
abbrev i__law_over : Nat := 17
def f__law_small : Fd := ⟨"_law_small", ["state"], [true],
 .cons (.ret (.call 13 (.cons (.bin .Sub (.call 11 (.cons (.var 0) (.cons (.int 19) .nil))) (.int 9)) (.cons (.bin .Add (.int 1) (.ix (.lst (.cons (.int 0) (.cons (.int 0) (.cons (.call 11 (.cons (.var 0) (.cons (.int 6) .nil))) .nil)))) (.call 11 (.cons (.var 0) (.cons (.int 3) .nil))))) .nil)))) .nil⟩
abbrev i__law_small : Nat := 18
def f__law_above : Fd := ⟨"_law_above", ["state"], [true],
 .cons (.ret (.call 13 (.cons (.bin .Add (.int 1) (.call 11 (.cons (.var 0) (.cons (.int 12) .nil)))) (.cons (.bin .Add (.int 1) (.ix (.lst (.cons (.int 0) (.cons (.int 0) (.cons (.call 11 (.cons (.var 0) (.cons (.int 6) .nil))) .nil)))) (.call 11 (.cons (.var 0) (.cons (.int 3) .nil))))) .nil)))) .nil⟩
abbrev i__law_above : Nat := 19
def f__law_four_rods : Fd := ⟨"_law_four_rods", ["state", "one", "other", "squares", "places"], [true],
 .cons (.asg (.name 1) (.tup (.cons (.call 18 (.cons (.var 0) .nil)) (.cons (.call 18 (.cons (.var 0) .nil)) .nil))))
 (.cons (.asg (.name 2) (.tup (.cons (.call 18 (.cons (.var 0) .nil)) (.cons (.call 18 (.cons (.var 0) .nil)) .nil))))
 (.cons (.ite (.cmp .Eq (.var 1) (.var 2)) (.cons (.asg (.name 2) (.tup (.cons (.call 14 (.cons (.ix (.var 2) (.int 0)) (.cons (.tup (.cons (.int 1) (.cons (.int 1) .nil))) .nil))) (.cons (.ix (.var 2) (.int 1)) .nil)))) .nil) (.nil))
 (.cons (.asg (.name 3) (.tup (.cons (.call 16 (.cons (.call 19 (.cons (.var 0) .nil)) (.cons (.tup (.cons (.int 9) (.cons (.int 1) .nil))) .nil))) (.cons (.call 16 (.cons (.call 19 (.cons (.var 0) .nil)) (.cons (.tup (.cons (.int 9) (.cons (.int 1) .nil))) .nil))) .nil))))
 (.cons (.asg (.name 4) (.lst (.cons (.tup (.cons (.call 18 (.cons (.var 0) .nil)) (.cons (.call 18 (.cons (.var 0) .nil)) .nil))) (.cons (.tup (.cons (.tup (.cons (.int 1) (.cons (.int 2) .nil))) (.cons (.tup (.cons (.int 0) (.cons (.int 1) .nil))) .nil))) (.cons (.tup (.cons (.tup (.cons (.int 0) (.cons (.int 1) .nil))) (.cons (.call 18 (.cons (.var 0) .nil)) .nil))) (.cons (.tup (.cons (.tup (.cons (.int 1) (.cons (.int 1) .nil))) (.cons (.tup (.cons (.int 0) (.cons (.int 1) .nil))) .nil))) .nil))))))
 (.cons (.ret (.tup (.cons (.var 1) (.cons (.var 2) (.cons (.call 19 (.cons (.var 0) .nil)) (.cons (.var 3) (.cons (.ix (.var 4) (.call 11 (.cons (.var 0) (.cons (.int 4) .nil)))) .nil))))))) .nil)))))⟩
abbrev i__law_four_rods : Nat := 20
def f__law_same : Fd := ⟨"_law_same", ["found", "due", "other", "one"], [false, false],
 .cons (.ite (.isi (.var 1) [.tuple, .list]) (.cons (.ite (.or (.cons (.cmp .NotEq (.isi (.var 0) [.tuple]) (.isi (.var 1) [.tuple])) (.cons (.cmp .NotEq (.isi (.var 0) [.list]) (.isi (.var 1) [.list])) .nil))) (.cons (.ret (.bl false)) .nil) (.nil))
 (.cons (.ite (.cmp .NotEq (.bf .len (.cons (.var 0) .nil)) (.bf .len (.cons (.var 1) .nil))) (.cons (.ret (.bl false)) .nil) (.nil))
 (.cons (.ret (.bf .all (.cons (.lc (.zip (.var 0) (.var 1)) (.tup (.cons (.name 3) (.cons (.name 2) .nil))) (.bl true) (.call 21 (.cons (.var 3) (.cons (.var 2) .nil))) [3, 2]) .nil))) .nil))) (.nil))
 (.cons (.ret (.and (.cons (.cmp .Eq (.var 0) (.var 1)) (.cons (.cmp .Eq (.isi (.var 0) [.bool]) (.isi (.var 1) [.bool])) .nil)))) .nil)⟩
abbrev i__law_same : Nat := 21
abbrev b3_law : Hg.Sts := .cons (.asg (.name 9) (.tup (.cons (.tup (.cons (.str "fix") (.cons (.ix (.var 7) (.int 0)) (.cons (.ix (.var 7) (.int 1)) .nil)))) (.cons (.tup (.cons (.str "fix") (.cons (.ix (.var 6) (.int 0)) (.cons (.ix (.var 6) (.int 1)) .nil)))) (.cons (.tup (.cons (.str "crank") (.cons (.int 0) (.cons (.var 5) .nil)))) .nil)))))
 (.cons (.asg (.name 9) (.bin .Add (.var 9) (.tup (.cons (.tup (.cons (.str "pair") (.cons (.int 2) (.cons (.int 1) (.cons (.ix (.var 4) (.int 0)) (.cons (.ix (.var 4) (.int 1)) (.cons (.var 8) .nil))))))) .nil))))
 (.cons (.asg (.name 9) (.bin .Add (.var 9) (.tup (.cons (.tup (.cons (.str "like") (.cons (.int 2) (.cons (.int 3) (.cons (.ix (.var 3) (.int 0)) (.cons (.ix (.var 3) (.int 1)) .nil)))))) .nil))))
 (.cons (.asg (.name 10) (.call 3 (.cons (.var 7) (.cons (.var 6) (.cons (.var 5) (.cons (.var 4) (.cons (.var 3) (.cons (.var 8) .nil))))))))
 (.cons (.ite (.or (.cons (.not (.call 21 (.cons (.var 10) (.cons (.var 9) .nil)))) (.cons (.cmp .IsNot (.call 8 (.cons (.var 10) .nil)) (.bl true)) .nil))) (.cons (.ret (.bl false)) .nil) (.nil)) .nil))))
abbrev l2_law : Hg.St := .fo (.seq (.tup (.cons (.int 0) (.cons (.int 1) .nil)))) (.name 8) (b3_law)
abbrev b1_law : Hg.Sts := .cons (.asg (.name 2) (.call 10 (.cons (.var 0) (.cons (.var 1) .nil))))
 (.cons (.asg (.tup (.cons (.name 7) (.cons (.name 6) (.cons (.name 5) (.cons (.name 4) (.cons (.name 3) .nil)))))) (.call 20 (.cons (.var 2) .nil)))
 (.cons (l2_law) .nil))
abbrev l0_law : Hg.St := .fo (.rng (.cons (.bf .max (.cons (.int 1) (.cons (.bf .min (.cons (.bf .len (.cons (.var 0) .nil)) (.cons (.int 10) .nil))) .nil))) .nil)) (.name 1) (b1_law)
def f_law : Fd := ⟨"law", ["script", "k", "state", "place", "squares", "crank", "other", "one", "side", "due", "found"], [false],
 .cons (l0_law)
 (.cons (.ret (.bl true)) .nil)⟩
abbrev i_law : Nat := 22
def top (i : Nat) : Stmt := PySem.Challenge.pw_hingedraw_k65_pens_machines.main.body.getD i (.Pass ⟨0, 0, 0, 0⟩)
def ds : List Tp := [⟨f_is_whole, top 1, "is_whole", "is_whole"⟩, ⟨f_is_fraction, top 2, "is_fraction", "is_fraction"⟩, ⟨f_divisor_of, top 3, "divisor_of", "divisor_of"⟩, ⟨f_pen_machine, top 5, "pen_machine", "pen_machine"⟩, ⟨f_is_joint, top 9, "is_joint", "is_joint"⟩, ⟨f_is_above, top 10, "is_above", "is_above"⟩, ⟨f_are_joints, top 11, "are_joints", "are_joints"⟩, ⟨f_is_step, top 12, "is_step", "is_step"⟩, ⟨f_is_machine, top 13, "is_machine", "is_machine"⟩, ⟨f__law_cell_at, top 15, "_law_cell_at", "_law_cell_at"⟩, ⟨f__law_state, top 16, "_law_state", "_law_state"⟩, ⟨f__law_take, top 17, "_law_take", "_law_take"⟩, ⟨f__law_divisor, top 18, "_law_divisor", "_law_divisor"⟩, ⟨f__law_ratio, top 19, "_law_ratio", "_law_ratio"⟩, ⟨f__law_plus, top 20, "_law_plus", "_law_plus"⟩, ⟨f__law_minus, top 21, "_law_minus", "_law_minus"⟩, ⟨f__law_times, top 22, "_law_times", "_law_times"⟩, ⟨f__law_over, top 23, "_law_over", "_law_over"⟩, ⟨f__law_small, top 24, "_law_small", "_law_small"⟩, ⟨f__law_above, top 25, "_law_above", "_law_above"⟩, ⟨f__law_four_rods, top 26, "_law_four_rods", "_law_four_rods"⟩, ⟨f__law_same, top 27, "_law_same", "_law_same"⟩, ⟨f_law, top 28, "law", "law"⟩]
def con : List (Str × D) := [("MOST_STEPS", .int 7)]
def g : Pg := ⟨ds, con, ["abs", "all", "bool", "enumerate", "int", "isinstance", "len", "list", "max", "min", "range", "str", "tuple", "zip"], [], [], [("LENGTHS", [("fix", 3), ("crank", 3), ("pair", 6), ("like", 5)])]⟩
theorem chk : g.chk = true := by kernel_rfl
end Lw
set_option Elab.async false
set_option linter.all false
set_option maxRecDepth 100000
set_option maxHeartbeats 0
/-! The head's run. -/
namespace Lw
open PySem PySem.Spec PyProof.Rows Hg L2
abbrev R : PySem.W.OpenRow := PySem.W.OpenLaw.row PySem.Challenge.rw_hingedraw_k65_pens_machines
abbrev hk : PySem.W.Hook := g.hook 4
def ob (s : PySem.W.SharedT) : AlC := g.obsG 4 (HandSHeadRun.getT s)
theorem ob_eq (s : PySem.W.SharedT) : ob s = hk.obs s.abs := Pg.obsG_eq (HandSHeadRun.getT_eq s)
def loose0 : List PySem.Str := ["is_whole", "is_fraction", "divisor_of", "pen_machine", "MOST_STEPS", "LENGTHS", "is_joint", "is_above", "are_joints", "is_step", "is_machine", "_law_cell_at", "_law_state", "_law_take", "_law_divisor", "_law_ratio", "_law_plus", "_law_minus", "_law_times", "_law_over", "_law_small", "_law_above", "_law_four_rods", "_law_same"]
def loose : List PySem.Str := loose0
theorem run_f (w : World) : HandSHeadRun.RunEq R (PySem.W.view R.prog [28]) hk ob 20000 loose (w.withFollow "special-get-raises" false) := by
  intro os
  kernel_rfl
theorem run_t (w : World) : HandSHeadRun.RunEq R (PySem.W.view R.prog [28]) hk ob 20000 loose (w.withFollow "special-get-raises" true) := by
  intro os
  kernel_rfl
theorem run (w : World) : HandSHeadRun.RunEq R (PySem.W.view R.prog [28]) hk ob 20000 loose w := PySem.W.byRow2 "special-get-raises" run_f run_t w
end Lw
set_option Elab.async false
set_option linter.all false
set_option maxRecDepth 100000
set_option maxHeartbeats 400000
/-! Runs of terms: rules for reckoning. -/
namespace Hg
open PySem
theorem whN_more {c : M Bool} {b : M Fl} : ∀ (n : Nat) (s : S), ¬ (whN c b n s).isBad → ∀ m, n ≤ m → whN c b m s = whN c b n s
  | 0, s, h, m, _ => (h trivial).elim
  | n + 1, s, h, 0, hm => by omega
  | n + 1, s, h, m + 1, hm => by
    have e : ∀ k, whN c b (k + 1) s = (c s).bind fun q s1 => (if q then b.bind fun f => (match f with
      | .nx => whN c b k
      | .rt r => M.pure (.rt r)) else M.pure .nx) s1 := fun k => rfl
    rw [e] at h
    rw [e, e]
    cases hc : c s with
    | bad => rfl
    | err u t => rfl
    | ok q s1 =>
      rw [hc] at h
      cases q with
      | false => rfl
      | true =>
        have h : ¬ ((b s1).bind fun f s2 => (match f with
          | .nx => whN c b n
          | .rt r => M.pure (.rt r)) s2).isBad := h
        show ((b s1).bind fun f s2 => (match f with
          | .nx => whN c b m
          | .rt r => M.pure (.rt r)) s2) = (b s1).bind fun f s2 => (match f with
          | .nx => whN c b n
          | .rt r => M.pure (.rt r)) s2
        cases hb : b s1 with
        | bad => rfl
        | err u t => rfl
        | ok f s2 =>
          rw [hb] at h
          cases f with
          | rt r => rfl
          | nx => exact whN_more n s2 h m (by omega)
theorem whM_of {c : M Bool} {b : M Fl} {n : Nat} {s : S} (h : ¬ (whN c b n s).isBad) : whM c b s = whN c b n s := by
  unfold whM
  have ex : ∃ n, ¬ (whN c b n s).isBad := ⟨n, h⟩
  rw [dif_pos ex]
  have h2 := Classical.choose_spec ex
  generalize Classical.choose ex = m at h2
  rcases Nat.le_total n m with q | q
  · exact whN_more n s h m q
  · exact (whN_more m s h2 n q).symm
theorem whM_no {c : M Bool} {b : M Fl} {s : S} (h : ∀ n, (whN c b n s).isBad) : whM c b s = .bad := by
  unfold whM
  rw [dif_neg fun ⟨n, q⟩ => q (h n)]
theorem isBad_eq {α : Type} {r : R α} (h : r.isBad) : r = .bad := by
  cases r with
  | bad => rfl
  | ok a s => exact h.elim
  | err e s => exact h.elim
/-- one turn -/
theorem whM_step (c : M Bool) (b : M Fl) (s : S) : whM c b s = (c s).bind fun q s1 => if q then (b s1).bind fun f s2 => (match f with
      | .nx => whM c b s2
      | .rt r => .ok (.rt r) s2) else .ok .nx s1 := by
  have e : ∀ k, whN c b (k + 1) s = (c s).bind fun q s1 => (if q then b.bind fun f => (match f with
      | .nx => whN c b k
      | .rt r => M.pure (.rt r)) else M.pure .nx) s1 := fun k => rfl
  have fin : ∀ {r : R Fl} (n : Nat), whN c b n s = r → ¬ r.isBad → whM c b s = r := fun n h1 h2 => by
    rw [whM_of (n := n) (by rw [h1]; exact h2), h1]
  cases hc : c s with
  | bad =>
    exact whM_no fun n => by
      cases n with
      | zero => trivial
      | succ n => rw [e, hc]; trivial
  | err u t => exact fin 1 (by rw [e, hc] <;> rfl) id
  | ok q s1 =>
    cases q with
    | false => exact fin 1 (by rw [e, hc] <;> rfl) id
    | true =>
      show _ = (b s1).bind fun f s2 => (match f with
        | .nx => whM c b s2
        | .rt r => .ok (.rt r) s2)
      have e2 : ∀ k, whN c b (k + 1) s = (b s1).bind fun f s2 => (match f with
          | .nx => whN c b k
          | .rt r => M.pure (.rt r)) s2 := fun k => by rw [e, hc] <;> rfl
      cases hb : b s1 with
      | bad =>
    exact whM_no fun n => by
          cases n with
          | zero => trivial
          | succ n => rw [e2, hb]; trivial
      | err u t => exact fin 1 (by rw [e2, hb] <;> rfl) id
      | ok f s2 =>
        cases f with
        | rt r => exact fin 1 (by rw [e2, hb] <;> rfl) id
        | nx =>
          show _ = whM c b s2
          by_cases ex : ∃ n, ¬ (whN c b n s2).isBad
          · obtain ⟨n, h⟩ := ex
            rw [whM_of h]
            exact fin (n + 1) (by rw [e2, hb] <;> rfl) h
          · have h2 : ∀ n, (whN c b n s2).isBad := fun n => Classical.byContradiction fun z => ex ⟨n, z⟩
            rw [whM_no h2]
            exact whM_no fun n => by
              cases n with
              | zero => trivial
              | succ n =>
                rw [e2, hb]
                exact h2 n
theorem whM_t {c : M Bool} {b : M Fl} {s s1 s2 : S} (hc : c s = .ok true s1) (hb : b s1 = .ok .nx s2) : whM c b s = whM c b s2 := by
  rw [whM_step, hc]
  show ((b s1).bind fun f s2 => (match f with
      | .nx => whM c b s2
      | .rt r => .ok (.rt r) s2)) = _
  rw [hb]
  rfl
theorem whM_f {c : M Bool} {b : M Fl} {s s1 : S} (hc : c s = .ok false s1) : whM c b s = .ok .nx s1 := by
  rw [whM_step, hc]
  rfl
theorem whM_r {c : M Bool} {b : M Fl} {s s1 s2 : S} {r : Sl} (hc : c s = .ok true s1) (hb : b s1 = .ok (.rt r) s2) : whM c b s = .ok (.rt r) s2 := by
  rw [whM_step, hc]
  show ((b s1).bind fun f s2 => (match f with
      | .nx => whM c b s2
      | .rt r => .ok (.rt r) s2)) = _
  rw [hb]
  rfl
end Hg
set_option Elab.async false
set_option linter.all false
set_option maxRecDepth 100000
set_option maxHeartbeats 400000
/-! The evaluator's rows, one by one. -/
namespace Hg
open PySem
section
variable {C : Cal} {P : List Nat} {α β γ : Type}
theorem q_var {i : Nat} : evE C (.var i) = varM i := rfl
theorem q_int {i : Int} : evE C (.int i) = M.pure (.sh (.int i)) := rfl
theorem q_str {x : Str} : evE C (.str x) = M.pure (.sh (.str x)) := rfl
theorem q_bl {b : Bool} : evE C (.bl b) = M.pure (.sh (.bool b)) := rfl
theorem q_non : evE C .non = M.pure (.sh .none) := rfl
theorem q_glo {x : Str} : evE C (.glo x) = lift ((C.con x).map .sh) := rfl
theorem q_bin {op : Operator} {a b : Ex} : evE C (.bin op a b) = (opnd a (evE C a)).bind fun x => (opnd b (evE C b)).bind fun y => (resO x).bind fun d => (resO y).bind fun e => lift (binD op d e) := rfl
theorem q_neg {a : Ex} : evE C (.neg a) = (frz (evE C a)).bind fun d => match d with
    | .int i => M.pure (.sh (.int (-i)))
    | _ => bad := rfl
theorem q_cmp {op : CmpOp} {a b : Ex} : evE C (.cmp op a b) = (opnd a (evE C a)).bind fun x => (opnd b (evE C b)).bind fun y => (resO x).bind fun d => (resO y).bind fun e => lift ((cmpD op d e).map fun k => .sh (.bool k)) := rfl
theorem q_chain {o p : CmpOp} {a b c : Ex} : evE C (.chain o p a b c) = (frz (evE C a)).bind fun x => (frz (evE C b)).bind fun y => (lift (cmpD o x y)).bind fun k => if k then (frz (evE C c)).bind fun z => lift ((cmpD p y z).map fun k => .sh (.bool k)) else bM false := rfl
theorem q_and {es : Exs} : evE C (.and es) = (evAnd C es).bind bM := rfl
theorem q_or {es : Exs} : evE C (.or es) = (evOr C es).bind bM := rfl
theorem q_not {a : Ex} : evE C (.not a) = (testM (evE C a)).bind fun k => bM (!k) := rfl
theorem q_ife {c a b : Ex} : evE C (.ife c a b) = (testM (evE C c)).bind fun k => if k then evE C a else evE C b := rfl
theorem q_ix {a i : Ex} : evE C (.ix a i) = (opnd a (evE C a)).bind fun x => (frz (evE C i)).bind fun e => (resO x).bind fun d => lift ((ixD d e).map .sh) := rfl
theorem q_cget {g : Str} {tab : List (Str × Int)} {e : Ex} : evE C (.cget g tab e) = (frz (evE C e)).bind fun d => lift (cgetD tab d) := rfl
theorem q_dix {a i : Ex} : evE C (.dix a i) = (opnd a (evE C a)).bind fun x => (frz (evE C i)).bind fun e => (resO x).bind fun d => lift ((dixD d e).map .sh) := rfl
theorem q_orv {a b : Ex} : evE C (.orv a b) = (frz (evE C a)).bind fun d => (lift (truD d)).bind fun k => if k then M.pure (.sh d) else evE C b := rfl
theorem q_dicm {ks vs : Exs} : evE C (.dic ks vs) = match keysE ks with
    | some l => noErr ((evDs C vs).bind fun ds => lift (dicD l ds))
    | none => bad := by rw [evE] <;> (cases keysE ks <;> rfl)
theorem ky0 : keysE .nil = some [] := rfl
theorem ky1 {x : Str} {es : Exs} : keysE (.cons (.str x) es) = (keysE es).map (x :: ·) := rfl
theorem ne_app {m : M α} {s : S} : noErr m s = match m s with
  | .ok a s' => .ok a s'
  | _ => .bad := rfl
theorem q_dic {ks vs : Exs} {l : List Str} (h : keysE ks = some l) : evE C (.dic ks vs) = noErr ((evDs C vs).bind fun ds => lift (dicD l ds)) := by rw [evE, h]
theorem ne_ok {a : α} {s : S} {m : M α} {s0 : S} (h : m s0 = .ok a s) : noErr m s0 = .ok a s := by
  unfold noErr
  rw [h]
theorem tr_non : truD .none = some false := rfl
theorem tr_int {i : Int} : truD (.int i) = some (i != 0) := rfl
theorem tr_lst {xs : List D} : truD (.list xs) = some (!xs.isEmpty) := rfl
theorem q_sl {a lo hi : Ex} : evE C (.sl a lo hi) = (opnd a (evE C a)).bind fun x => (partM lo (evE C lo)).bind fun l => (partM hi (evE C hi)).bind fun h => (resO x).bind fun d => lift (slD d l h) := rfl
theorem q_rev {a : Ex} : evE C (.rev a) = (frz (evE C a)).bind fun d => lift (rvD d) := rfl
theorem q_tup {es : Exs} : evE C (.tup es) = (evDs C es).bind fun ds => if ds.length ≤ sizeLine then M.pure (.sh (.tuple ds)) else bad := rfl
theorem q_lst {es : Exs} : evE C (.lst es) = (evDs C es).bind fun ds => if ds.length ≤ sizeLine then M.pure (.ow (.lst ds)) else bad := rfl
theorem q_call {f : Nat} {es : Exs} : evE C (.call f es) = if hasT (C.io f) then (if isTmp es then (evT C es).bind (tmpM C f) else (evAs C (C.io f) es).bind fun as => callM C f as) else (evOs C es).bind fun xs => callN C f xs := rfl
theorem n_callN {f : Nat} {xs : List Op} {s : S} : callN C f xs s = if xs.length = (C.io f).length then (match resOs xs s with
  | .ok ds _ => if anyV xs then (match C.run f (ds.map Sl.sh) with
    | .ok r [] => if scal r then .ok r s else callM C f (ds.map Ag.d) (letGo s xs)
    | _ => callM C f (ds.map Ag.d) (letGo s xs)) else callM C f (ds.map Ag.d) s
  | _ => .bad) else .bad := rfl
theorem n_evT {e : Ex} {es : Exs} : evT C (.cons e es) = evE C e := rfl
theorem n_tmp {f : Nat} {o : Ob} {s : S} : tmpM C f (.ow o) s = if (C.io f).length = 1 then (match C.run f [.ow o] with
    | .ok r [_] => .ok r s
    | .err e [_] => .err e s
    | _ => .bad) else .bad := rfl
theorem n_isTv {i : Nat} : isTmp (.cons (.var i) .nil) = false := rfl
theorem n_isT2 {e d : Ex} {r : Exs} : isTmp (.cons e (.cons d r)) = false := by cases e <;> rfl
theorem n_isTc {f : Nat} {es : Exs} : isTmp (.cons (.call f es) .nil) = true := rfl
theorem n_aV0 : anyV [] = false := rfl
theorem n_aVd {d : D} {r : List Op} : anyV (.d d :: r) = anyV r := rfl
theorem n_aVv {i : Nat} {r : List Op} : anyV (.v i :: r) = true := rfl
theorem n_hT0 : hasT [] = false := rfl
theorem n_hTt {r : List Bool} : hasT (true :: r) = true := rfl
theorem n_hTf {r : List Bool} : hasT (false :: r) = hasT r := rfl
theorem n_scB {b : Bool} : scal (.sh (.bool b)) = true := rfl
theorem n_scI {i : Int} : scal (.sh (.int i)) = true := rfl
theorem n_scN : scal (.sh .none) = true := rfl
theorem n_scT {ds : List D} : scal (.sh (.tuple ds)) = false := rfl
theorem n_scL {ds : List D} : scal (.sh (.list ds)) = false := rfl
theorem n_scO {o : Ob} : scal (.ow o) = false := rfl
theorem n_let0 {s : S} : letGo s [] = s := rfl
theorem n_letD {d : D} {r : List Op} {s : S} : letGo s (.d d :: r) = letGo s r := rfl
theorem n_letV {i : Nat} {r : List Op} {s : S} : letGo s (.v i :: r) = letGo (letG s i) r := rfl
theorem n_letG {i : Nat} {s : S} : letG s i = match s[i]? with
  | some (.ow o) => s.set i (.sh o.val)
  | _ => s := rfl
theorem q_bf {b : Bf} {es : Exs} : evE C (.bf b es) = (evOs C es).bind fun xs => (resOs xs).bind fun ds => lift (bfD b ds) := rfl
theorem q_isi {a : Ex} {ts : List Ty} : evE C (.isi a ts) = (opnd a (evE C a)).bind fun x => (resO x).bind fun d => M.pure (.sh (.bool (ts.any (isTy d)))) := rfl
theorem q_lc {src : Src} {tg : Tg} {c e : Ex} {own : List Nat} : evE C (.lc src tg c e own) = lcM own (fun d => (putT tg d).bind fun _ => (testM (evE C c)).bind fun k => if k then (frz (evE C e)).bind fun x => M.pure (some x) else M.pure none) (evSrc C src) := rfl
theorem q_lcl {i : Nat} {tg : Tg} {c e : Ex} {own : List Nat} : evE C (.lcl i tg c e own) = lcL own (fun d => (putT tg d).bind fun _ => (testM (evE C c)).bind fun k => if k then (frz (evE C e)).bind fun x => M.pure (some x) else M.pure none) i := rfl
theorem q_app {i : Nat} {e : Ex} : evE C (.app i e) = (ownL i).bind fun _ => (frz (evE C e)).bind fun d => (ownL i).bind fun xs => appM i d xs := rfl
theorem q_ext {i : Nat} {e : Ex} : evE C (.ext i e) = (ownL i).bind fun _ => (frz (evE C e)).bind fun d => (ownL i).bind fun xs => extM i d xs := rfl
theorem q_pop {i : Nat} {e : Ex} : evE C (.pop i e) = (ownL i).bind fun _ => (frz (evE C e)).bind fun d => (ownL i).bind fun xs => popM i d xs := rfl
theorem q_ins {i : Nat} {k e : Ex} : evE C (.ins i k e) = (ownL i).bind fun _ => (frz (evE C k)).bind fun q => (frz (evE C e)).bind fun d => (ownL i).bind fun xs => insM i q d xs := rfl
theorem q_an0 : evAnd C .nil = M.pure true := rfl
theorem q_an1 {e : Ex} {es : Exs} : evAnd C (.cons e es) = (testM (evE C e)).bind fun k => if k then evAnd C es else M.pure false := rfl
theorem q_or0 : evOr C .nil = M.pure false := rfl
theorem q_or1 {e : Ex} {es : Exs} : evOr C (.cons e es) = (testM (evE C e)).bind fun k => if k then M.pure true else evOr C es := rfl
theorem q_ds0 : evDs C .nil = M.pure [] := rfl
theorem q_ds1 {e : Ex} {es : Exs} : evDs C (.cons e es) = (frz (evE C e)).bind fun d => (evDs C es).bind fun ds => M.pure (d :: ds) := rfl
theorem q_os0 : evOs C .nil = M.pure [] := rfl
theorem q_os1 {e : Ex} {es : Exs} : evOs C (.cons e es) = (opnd e (evE C e)).bind fun d => (evOs C es).bind fun ds => M.pure (d :: ds) := rfl
theorem q_as0 : evAs C [] .nil = M.pure [] := rfl
theorem q_as1 {b : Bool} {bs : List Bool} {e : Ex} {es : Exs} : evAs C (b :: bs) (.cons e es) = (argM b e (evE C e)).bind fun d => (evAs C bs es).bind fun ds => M.pure (d :: ds) := rfl
theorem q_seq {e : Ex} : evSrc C (.seq e) = (frz (evE C e)).bind fun d => lift (seqD d) := rfl
theorem q_rng {es : Exs} : evSrc C (.rng es) = (evDs C es).bind fun ds => lift (rngD ds) := rfl
theorem q_zip {a b : Ex} : evSrc C (.zip a b) = (frz (evE C a)).bind fun x => (frz (evE C b)).bind fun y => lift (zipD x y) := rfl
theorem q_enu {a : Ex} : evSrc C (.enu a) = (frz (evE C a)).bind fun x => lift (enuD x) := rfl
theorem q_rvd {a : Ex} : evSrc C (.rvd a) = (frz (evE C a)).bind fun x => lift (revD x) := rfl
theorem q_asgN {i : Nat} {e : Ex} : evS C P (.asg (.name i) e) = (evE C e).bind fun r => nx (asgM P i r) := rfl
theorem q_asgT {ts : Tgs} {e : Ex} : evS C P (.asg (.tup ts) e) = if okTs P ts then (frz (evE C e)).bind fun d => nx (putT (.tup ts) d) else bad := rfl
theorem q_par {i j : Nat} {a b : Ex} : evS C P (.par i j a b) = if i ∈ P ∨ j ∈ P then bad else (frz (evE C a)).bind fun x => (frz (evE C b)).bind fun y => nx ((setS i (.sh x)).bind fun _ => setS j (.sh y)) := rfl
theorem q_par3 {i j l : Nat} {a b c : Ex} : evS C P (.par3 i j l a b c) = if i ∈ P ∨ j ∈ P ∨ l ∈ P then bad else (frz (evE C a)).bind fun x => (frz (evE C b)).bind fun y => (frz (evE C c)).bind fun z => nx ((setS i (.sh x)).bind fun _ => (setS j (.sh y)).bind fun _ => setS l (.sh z)) := rfl
theorem q_tr {b : Sts} {m : Nat} {hs : List (Nat × Hdl)} {s : S} : evS C P (.tr b m hs) s = trR P m hs (evSs C P b s) := rfl
theorem q_trN {m : Nat} {hs : List (Nat × Hdl)} {f : Fl} {s : S} : trR P m hs (.ok f s) = .ok f s := rfl
theorem q_six {i : Nat} {k e : Ex} : evS C P (.six i k e) = (frz (evE C e)).bind fun d => (ownL i).bind fun _ => (frz (evE C k)).bind fun q => nx (sixM i q d) := rfl
theorem q_exp {e : Ex} : evS C P (.exp e) = (evE C e).bind fun _ => M.pure .nx := rfl
theorem q_ret {e : Ex} : evS C P (.ret e) = (retM P e (evE C e)).bind fun r => M.pure (.rt r) := rfl
theorem q_ite {c : Ex} {a b : Sts} : evS C P (.ite c a b) = (testM (evE C c)).bind fun k => if k then evSs C P a else evSs C P b := rfl
theorem q_whl {c : Ex} {b : Sts} : evS C P (.whl c b) = whM (testM (evE C c)) (evSs C P b) := rfl
theorem q_fo {src : Src} {tg : Tg} {b : Sts} : evS C P (.fo src tg b) = if okT P tg then (evSrc C src).bind fun ds => foGo (fun d => (putT tg d).bind fun _ => evSs C P b) ds else bad := rfl
theorem q_rai {c : Nat} {s : S} : evS C P (.rai c) s = .err ⟨c, none⟩ s := rfl
theorem q_nil : evSs C P .nil = M.pure .nx := rfl
theorem q_cons {st : St} {ss : Sts} : evSs C P (.cons st ss) = (evS C P st).bind fun f => match f with
    | .nx => evSs C P ss
    | .rt r => M.pure (.rt r) := rfl
/-! ### binds -/
theorem b_app {m : M α} {f : α → M β} {s : S} : (m.bind f) s = (m s).bind f := rfl
theorem b_ok {a : α} {s : S} {f : α → S → R β} : (R.ok a s).bind f = f a s := rfl
theorem b_bad {f : α → S → R β} : (R.bad : R α).bind f = .bad := rfl
theorem b_err {e : Er} {s : S} {f : α → S → R β} : (R.err e s : R α).bind f = .err e s := rfl
theorem p_app {a : α} {s : S} : (M.pure a) s = .ok a s := rfl
theorem p_bad {s : S} : (bad : M α) s = .bad := rfl
theorem l_some {a : α} {s : S} : (lift (some a)) s = .ok a s := rfl
theorem o_var {i : Nat} {m : M Sl} {s : S} : opnd (.var i) m s = opV i s := rfl
theorem f_app {m : M Sl} {s : S} : frz m s = (m s).bind fun r s1 => lift r.data s1 := rfl
theorem t_app {m : M Sl} {s : S} : testM m s = ((m s).bind fun r s1 => lift r.data s1).bind fun d s1 => (match d with
  | .bool b => M.pure b
  | _ => bad : M Bool) s1 := rfl
theorem d_sh {d : D} : (Sl.sh d).data = some d := rfl
theorem d_ow {o : Ob} : (Sl.ow o).data = some o.val := rfl
theorem r_d {d : D} {s : S} : resO (.d d) s = .ok d s := rfl
theorem r_v {i : Nat} {s : S} : resO (.v i) s = resV i s := rfl
theorem bM_app {b : Bool} {s : S} : bM b s = .ok (.sh (.bool b)) s := rfl
theorem a_t {i : Nat} {m : M Sl} {s : S} : argM true (.var i) m s = ioV i s := rfl
theorem a_f {e : Ex} {m : M Sl} {s : S} : argM false e m s = (frz m s).bind fun d s1 => R.ok (Ag.d d) s1 := rfl
theorem rs0 {s : S} : resOs [] s = .ok [] s := rfl
theorem rs1 {x : Op} {xs : List Op} {s : S} : resOs (x :: xs) s = (resO x s).bind fun d s1 => (resOs xs s1).bind fun ds s2 => R.ok (d :: ds) s2 := rfl
theorem nx_app {m : M Unit} {s : S} : nx m s = (m s).bind fun _ s1 => R.ok .nx s1 := rfl
theorem o_int {i : Int} {m : M Sl} {s : S} : opnd (.int i) m s = (frz m s).bind fun d s1 => R.ok (Op.d d) s1 := rfl
theorem m_int {i : Int} {m : M Sl} {s : S} : retM P (.int i) m s = m s := rfl
theorem o_str {x : Str} {m : M Sl} {s : S} : opnd (.str x) m s = (frz m s).bind fun d s1 => R.ok (Op.d d) s1 := rfl
theorem m_str {x : Str} {m : M Sl} {s : S} : retM P (.str x) m s = m s := rfl
theorem o_bl {b : Bool} {m : M Sl} {s : S} : opnd (.bl b) m s = (frz m s).bind fun d s1 => R.ok (Op.d d) s1 := rfl
theorem m_bl {b : Bool} {m : M Sl} {s : S} : retM P (.bl b) m s = m s := rfl
theorem o_non  {m : M Sl} {s : S} : opnd .non m s = (frz m s).bind fun d s1 => R.ok (Op.d d) s1 := rfl
theorem m_non  {m : M Sl} {s : S} : retM P .non m s = m s := rfl
theorem o_glo {x : Str} {m : M Sl} {s : S} : opnd (.glo x) m s = (frz m s).bind fun d s1 => R.ok (Op.d d) s1 := rfl
theorem m_glo {x : Str} {m : M Sl} {s : S} : retM P (.glo x) m s = m s := rfl
theorem o_bin {op : Operator} {a b : Ex} {m : M Sl} {s : S} : opnd (.bin op a b) m s = (frz m s).bind fun d s1 => R.ok (Op.d d) s1 := rfl
theorem m_bin {op : Operator} {a b : Ex} {m : M Sl} {s : S} : retM P (.bin op a b) m s = m s := rfl
theorem o_neg {a : Ex} {m : M Sl} {s : S} : opnd (.neg a) m s = (frz m s).bind fun d s1 => R.ok (Op.d d) s1 := rfl
theorem m_neg {a : Ex} {m : M Sl} {s : S} : retM P (.neg a) m s = m s := rfl
theorem o_cmp {op : CmpOp} {a b : Ex} {m : M Sl} {s : S} : opnd (.cmp op a b) m s = (frz m s).bind fun d s1 => R.ok (Op.d d) s1 := rfl
theorem m_cmp {op : CmpOp} {a b : Ex} {m : M Sl} {s : S} : retM P (.cmp op a b) m s = m s := rfl
theorem o_chain {o p : CmpOp} {a b c : Ex} {m : M Sl} {s : S} : opnd (.chain o p a b c) m s = (frz m s).bind fun d s1 => R.ok (Op.d d) s1 := rfl
theorem m_chain {o p : CmpOp} {a b c : Ex} {m : M Sl} {s : S} : retM P (.chain o p a b c) m s = m s := rfl
theorem o_and {es : Exs} {m : M Sl} {s : S} : opnd (.and es) m s = (frz m s).bind fun d s1 => R.ok (Op.d d) s1 := rfl
theorem m_and {es : Exs} {m : M Sl} {s : S} : retM P (.and es) m s = m s := rfl
theorem o_or {es : Exs} {m : M Sl} {s : S} : opnd (.or es) m s = (frz m s).bind fun d s1 => R.ok (Op.d d) s1 := rfl
theorem m_or {es : Exs} {m : M Sl} {s : S} : retM P (.or es) m s = m s := rfl
theorem o_not {a : Ex} {m : M Sl} {s : S} : opnd (.not a) m s = (frz m s).bind fun d s1 => R.ok (Op.d d) s1 := rfl
theorem m_not {a : Ex} {m : M Sl} {s : S} : retM P (.not a) m s = m s := rfl
theorem o_ife {c a b : Ex} {m : M Sl} {s : S} : opnd (.ife c a b) m s = (frz m s).bind fun d s1 => R.ok (Op.d d) s1 := rfl
theorem m_ife {c a b : Ex} {m : M Sl} {s : S} : retM P (.ife c a b) m s = m s := rfl
theorem o_ix {a i : Ex} {m : M Sl} {s : S} : opnd (.ix a i) m s = (frz m s).bind fun d s1 => R.ok (Op.d d) s1 := rfl
theorem m_ix {a i : Ex} {m : M Sl} {s : S} : retM P (.ix a i) m s = m s := rfl
theorem o_cget {g : Str} {tab : List (Str × Int)} {e : Ex} {m : M Sl} {s : S} : opnd (.cget g tab e) m s = (frz m s).bind fun d s1 => R.ok (Op.d d) s1 := rfl
theorem m_cget {g : Str} {tab : List (Str × Int)} {e : Ex} {m : M Sl} {s : S} : retM P (.cget g tab e) m s = m s := rfl
theorem o_sl {a b c : Ex} {m : M Sl} {s : S} : opnd (.sl a b c) m s = (frz m s).bind fun d s1 => R.ok (Op.d d) s1 := rfl
theorem m_sl {a b c : Ex} {m : M Sl} {s : S} : retM P (.sl a b c) m s = m s := rfl
theorem o_orv {a b : Ex} {m : M Sl} {s : S} : opnd (.orv a b) m s = (frz m s).bind fun d s1 => R.ok (Op.d d) s1 := rfl
theorem m_orv {a b : Ex} {m : M Sl} {s : S} : retM P (.orv a b) m s = m s := rfl
theorem o_dix {a b : Ex} {m : M Sl} {s : S} : opnd (.dix a b) m s = (frz m s).bind fun d s1 => R.ok (Op.d d) s1 := rfl
theorem m_dix {a b : Ex} {m : M Sl} {s : S} : retM P (.dix a b) m s = m s := rfl
theorem o_dic {a b : Exs} {m : M Sl} {s : S} : opnd (.dic a b) m s = (frz m s).bind fun d s1 => R.ok (Op.d d) s1 := rfl
theorem m_dic {a b : Exs} {m : M Sl} {s : S} : retM P (.dic a b) m s = m s := rfl
theorem o_tup {es : Exs} {m : M Sl} {s : S} : opnd (.tup es) m s = (frz m s).bind fun d s1 => R.ok (Op.d d) s1 := rfl
theorem m_tup {es : Exs} {m : M Sl} {s : S} : retM P (.tup es) m s = m s := rfl
theorem o_lst {es : Exs} {m : M Sl} {s : S} : opnd (.lst es) m s = (frz m s).bind fun d s1 => R.ok (Op.d d) s1 := rfl
theorem m_lst {es : Exs} {m : M Sl} {s : S} : retM P (.lst es) m s = m s := rfl
theorem o_call {f : Nat} {es : Exs} {m : M Sl} {s : S} : opnd (.call f es) m s = (frz m s).bind fun d s1 => R.ok (Op.d d) s1 := rfl
theorem m_call {f : Nat} {es : Exs} {m : M Sl} {s : S} : retM P (.call f es) m s = m s := rfl
theorem o_bf {b : Bf} {es : Exs} {m : M Sl} {s : S} : opnd (.bf b es) m s = (frz m s).bind fun d s1 => R.ok (Op.d d) s1 := rfl
theorem m_bf {b : Bf} {es : Exs} {m : M Sl} {s : S} : retM P (.bf b es) m s = m s := rfl
theorem o_isi {a : Ex} {ts : List Ty} {m : M Sl} {s : S} : opnd (.isi a ts) m s = (frz m s).bind fun d s1 => R.ok (Op.d d) s1 := rfl
theorem m_isi {a : Ex} {ts : List Ty} {m : M Sl} {s : S} : retM P (.isi a ts) m s = m s := rfl
theorem o_lc {sr : Src} {tg : Tg} {c e : Ex} {ow : List Nat} {m : M Sl} {s : S} : opnd (.lc sr tg c e ow) m s = (frz m s).bind fun d s1 => R.ok (Op.d d) s1 := rfl
theorem m_lc {sr : Src} {tg : Tg} {c e : Ex} {ow : List Nat} {m : M Sl} {s : S} : retM P (.lc sr tg c e ow) m s = m s := rfl
theorem o_lcl {i : Nat} {tg : Tg} {c e : Ex} {ow : List Nat} {m : M Sl} {s : S} : opnd (.lcl i tg c e ow) m s = (frz m s).bind fun d s1 => R.ok (Op.d d) s1 := rfl
theorem m_lcl {i : Nat} {tg : Tg} {c e : Ex} {ow : List Nat} {m : M Sl} {s : S} : retM P (.lcl i tg c e ow) m s = m s := rfl
theorem o_pop {i : Nat} {e : Ex} {m : M Sl} {s : S} : opnd (.pop i e) m s = (frz m s).bind fun d s1 => R.ok (Op.d d) s1 := rfl
theorem m_pop {i : Nat} {e : Ex} {m : M Sl} {s : S} : retM P (.pop i e) m s = m s := rfl
theorem o_rfd {r g : Nat} {es : Exs} {ks : List Nat} {m : M Sl} {s : S} : opnd (.rfd r g es ks) m s = (frz m s).bind fun d s1 => R.ok (Op.d d) s1 := rfl
theorem m_rfd {r g : Nat} {es : Exs} {ks : List Nat} {m : M Sl} {s : S} : retM P (.rfd r g es ks) m s = m s := rfl
theorem m_var {i : Nat} {m : M Sl} {s : S} : retM P (.var i) m s = match s[i]? with
    | some (.ow o) => if i ∈ P then .bad else .ok (.ow o) (s.set i .un)
    | some (.sh d) => .ok (.sh d) s
    | _ => .bad := rfl
/-! ### data -/
section
variable {i j : Int} {a b c d e : D} {l xs ys : List D}
theorem k_add : binD .Add (.int i) (.int j) = some (.sh (.int (i + j))) := rfl
theorem k_sub : binD .Sub (.int i) (.int j) = some (.sh (.int (i - j))) := rfl
theorem k_mul (h : okMul i j = true) : binD .Mult (.int i) (.int j) = some (.sh (.int (i * j))) := if_pos h
theorem k_div (h : okDiv j = true) : binD .FloorDiv (.int i) (.int j) = some (.sh (.int (i.fdiv j))) := if_pos h
theorem k_mod (h : j ≠ 0) : binD .Mod (.int i) (.int j) = some (.sh (.int (i.fmod j))) := if_neg h
theorem k_lt : cmpD .Lt (.int i) (.int j) = some (decide (i < j)) := rfl
theorem k_le : cmpD .LtE (.int i) (.int j) = some (decide (i ≤ j)) := rfl
theorem k_gt : cmpD .Gt (.int i) (.int j) = some (decide (j < i)) := rfl
theorem k_ge : cmpD .GtE (.int i) (.int j) = some (decide (j ≤ i)) := rfl
theorem k_isn : cmpD .Is a .none = some (isNo a) := by cases a <;> rfl
theorem k_nisn : cmpD .IsNot a .none = some (!isNo a) := by cases a <;> rfl
theorem k_isb {a b : Bool} : cmpD .Is (.bool a) (.bool b) = some (decide (a = b)) := rfl
theorem k_nisb {a b : Bool} : cmpD .IsNot (.bool a) (.bool b) = some (!decide (a = b)) := rfl
theorem k_rev {xs : List D} : rvD (.list xs) = some (.ow (.lst xs.reverse)) := rfl
theorem k_eqi : cmpD .Eq (.int i) (.int j) = some (decide (i = j)) := by
  have e : PyData.eqv (.int i) (.int j) = (i == j) := by simp [PyData.eqv]
  show some (PyData.eqv (.int i) (.int j)) = _
  rw [e]
  by_cases h : i = j <;> simp [h]
theorem k_nei : cmpD .NotEq (.int i) (.int j) = some (!decide (i = j)) := by
  have e : PyData.eqv (.int i) (.int j) = (i == j) := by simp [PyData.eqv]
  show some (!PyData.eqv (.int i) (.int j)) = _
  rw [e]
  by_cases h : i = j <;> simp [h]
theorem x1_0 : ixD (.tuple [a]) (.int 0) = some a := rfl
theorem x2_0 : ixD (.tuple [a, b]) (.int 0) = some a := rfl
theorem x2_1 : ixD (.tuple [a, b]) (.int 1) = some b := rfl
theorem x3_0 : ixD (.tuple [a, b, c]) (.int 0) = some a := rfl
theorem x3_1 : ixD (.tuple [a, b, c]) (.int 1) = some b := rfl
theorem x3_2 : ixD (.tuple [a, b, c]) (.int 2) = some c := rfl
theorem x4_0 : ixD (.tuple [a, b, c, d]) (.int 0) = some a := rfl
theorem x4_1 : ixD (.tuple [a, b, c, d]) (.int 1) = some b := rfl
theorem x4_2 : ixD (.tuple [a, b, c, d]) (.int 2) = some c := rfl
theorem x4_3 : ixD (.tuple [a, b, c, d]) (.int 3) = some d := rfl
theorem y2_0 : ixD (.list [a, b]) (.int 0) = some a := rfl
theorem y2_1 : ixD (.list [a, b]) (.int 1) = some b := rfl
theorem y3_0 : ixD (.list [a, b, c]) (.int 0) = some a := rfl
theorem y3_1 : ixD (.list [a, b, c]) (.int 1) = some b := rfl
theorem y3_2 : ixD (.list [a, b, c]) (.int 2) = some c := rfl
theorem n_abs : bfD .abs [.int i] = some (.sh (.int (if i < 0 then -i else i))) := rfl
theorem n_int {b : Bool} : bfD .int [.bool b] = some (.sh (.int (if b then 1 else 0))) := rfl
theorem n_max : bfD .max [.int i, .int j] = some (.sh (.int (if j > i then j else i))) := rfl
theorem n_min : bfD .min [.int i, .int j] = some (.sh (.int (if j < i then j else i))) := rfl
theorem n_len : bfD .len [.list xs] = some (.sh (.int xs.length)) := rfl
theorem n_lent : bfD .len [.tuple xs] = some (.sh (.int xs.length)) := rfl
theorem n_tup : bfD .tuple [.list xs] = some (.sh (.tuple xs)) := rfl
theorem n_all : bfD .all [.list xs] = (allB xs).map fun b => .sh (.bool b) := rfl
theorem z0 {α : Type} : ([] : List α).length ≤ sizeLine := by show 0 ≤ sizeLine; decide
theorem z1 : [a].length ≤ sizeLine := by show 1 ≤ sizeLine; decide
theorem z2 : [a, b].length ≤ sizeLine := by show 2 ≤ sizeLine; decide
theorem z3 : [a, b, c].length ≤ sizeLine := by show 3 ≤ sizeLine; decide
theorem z4 : [a, b, c, d].length ≤ sizeLine := by show 4 ≤ sizeLine; decide
end
/-! ### slots -/
section
variable {s : S} {x y z u v : Sl} {d : D} {o : Ob} {n : Nat}
theorem v_app {i : Nat} : varM i s = match s[i]? with
  | some (.sh d) => .ok (.sh d) s
  | some (.ow o) => .ok (.sh o.val) (s.set i (.sh o.val))
  | _ => .bad := rfl
theorem opV_app {i : Nat} : opV i s = match s[i]? with
  | some (.ow _) => .ok (.v i) s
  | some (.sh d) => .ok (.d d) s
  | _ => .bad := rfl
theorem resV_app {i : Nat} : resV i s = match s[i]? with
  | some (.ow o) => .ok o.val s
  | some (.sh d) => .ok d s
  | _ => .bad := rfl
theorem ioV_app {i : Nat} : ioV i s = match s[i]? with
  | some (.ow _) => .ok (.io i) s
  | _ => .bad := rfl
theorem set_app {i : Nat} {r : Sl} : setS i r s = if i < s.length then .ok () (s.set i r) else .bad := rfl
theorem g0 : (x :: s)[0]? = some x := rfl
theorem g1 : (x :: y :: s)[1]? = some y := rfl
theorem g2 : (x :: y :: z :: s)[2]? = some z := rfl
theorem gS {n : Nat} : (x :: s)[n + 1]? = s[n]? := rfl
theorem st0 : (x :: s).set 0 y = y :: s := rfl
theorem stS {n : Nat} : (x :: s).set (n + 1) y = x :: s.set n y := rfl
theorem sz0 : 0 ≤ sizeLine := by decide
theorem sz1 : 1 ≤ sizeLine := by decide
theorem sz2 : 2 ≤ sizeLine := by decide
theorem sz3 : 3 ≤ sizeLine := by decide
theorem sz4 : 4 ≤ sizeLine := by decide
theorem sz5 : 5 ≤ sizeLine := by decide
theorem sz6 : 6 ≤ sizeLine := by decide
theorem sz7 : 7 ≤ sizeLine := by decide
theorem sz8 : 8 ≤ sizeLine := by decide
theorem sz9 : 9 ≤ sizeLine := by decide
theorem sz10 : 10 ≤ sizeLine := by decide
theorem sz11 : 11 ≤ sizeLine := by decide
theorem sz12 : 12 ≤ sizeLine := by decide
theorem sz13 : 13 ≤ sizeLine := by decide
theorem sz14 : 14 ≤ sizeLine := by decide
theorem sz15 : 15 ≤ sizeLine := by decide
theorem sz16 : 16 ≤ sizeLine := by decide
theorem sz17 : 17 ≤ sizeLine := by decide
theorem sz18 : 18 ≤ sizeLine := by decide
theorem sz19 : 19 ≤ sizeLine := by decide
theorem sz20 : 20 ≤ sizeLine := by decide
end
end
end Hg
set_option Elab.async false
set_option linter.all false
set_option maxRecDepth 100000
set_option maxHeartbeats 400000
/-! Walks and comprehensions: rules for reckoning. -/
namespace Hg
open PySem
theorem foGo_0 {turn : D → M Fl} {s : S} : foGo turn [] s = .ok .nx s := rfl
theorem foGo_t {turn : D → M Fl} {d : D} {ds : List D} {s s1 : S} (h : turn d s = .ok .nx s1) : foGo turn (d :: ds) s = foGo turn ds s1 := by
  show ((turn d s).bind fun f s1 => (match f with
    | .nx => foGo turn ds
    | .rt r => M.pure (.rt r)) s1) = _
  rw [h]
  rfl
theorem foGo_r {turn : D → M Fl} {d : D} {ds : List D} {s s1 : S} {r : Sl} (h : turn d s = .ok (.rt r) s1) : foGo turn (d :: ds) s = .ok (.rt r) s1 := by
  show ((turn d s).bind fun f s1 => (match f with
    | .nx => foGo turn ds
    | .rt r => M.pure (.rt r)) s1) = _
  rw [h]
  rfl
/-- a walk that keeps what is said of the slots -/
theorem foGo_inv {turn : D → M Fl} {I : S → Prop} : ∀ {ds : List D} {s : S}, I s → (∀ d ∈ ds, ∀ s, I s → ∃ s1, turn d s = .ok .nx s1 ∧ I s1) → ∃ s1, foGo turn ds s = .ok .nx s1 ∧ I s1
  | [], s, h, _ => ⟨s, rfl, h⟩
  | d :: ds, s, h, hs => by
    obtain ⟨s1, e1, h1⟩ := hs d List.mem_cons_self s h
    obtain ⟨s2, e2, h2⟩ := foGo_inv (ds := ds) h1 fun d hd => hs d (List.mem_cons_of_mem _ hd)
    exact ⟨s2, by rw [foGo_t e1]; exact e2, h2⟩
/-! ### comprehensions -/
theorem lcGo_all {α : Type} {own : List Nat} {turn : D → M (Option D)} {f : α → D} {o : α → Option D} {s0 : S} : ∀ {xs : List α}, (∀ x ∈ xs, ∃ s2, turn (f x) s0 = .ok (o x) s2 ∧ wipeS s2 own = s0) → lcGo own turn (xs.map f) s0 = .ok (xs.filterMap o) s0
  | [], _ => rfl
  | x :: xs, h => by
    obtain ⟨s2, e1, e2⟩ := h x List.mem_cons_self
    have ih := lcGo_all (xs := xs) fun d hd => h d (List.mem_cons_of_mem _ hd)
    show ((turn (f x) s0).bind fun o s1 => ((wipeM own).bind fun _ => (lcGo own turn (xs.map f)).bind fun r => M.pure (optCons o r)) s1) = _
    rw [e1]
    show ((lcGo own turn (xs.map f) (wipeS s2 own)).bind fun r s1 => R.ok (optCons (o x) r) s1) = _
    rw [e2, ih, List.filterMap_cons]
    cases o x <;> rfl
theorem back_self {s : S} {own : List Nat} (no : ∀ i ∈ own, i < s.length) : backS s (wipeS s own) own = s := by
  apply List.ext_getElem?
  intro j
  rw [backS_get (by rw [wipeS_len])]
  split
  · rfl
  · rename_i h
    rw [wipeS_get, if_neg fun z => h z.1]
theorem lcM_all {α : Type} {own : List Nat} {turn : D → M (Option D)} {src : M (List D)} {f : α → D} {o : α → Option D} {s s1 : S} {xs : List α} (hsrc : src s = .ok (xs.map f) s1) (hl : xs.length < sizeLine) (hi : ∀ i ∈ own, i < s1.length) (hno : own.all (fun i => notOw (s1.getD i .un)) = true)
    (h : ∀ x ∈ xs, ∃ s2, turn (f x) (wipeS s1 own) = .ok (o x) s2 ∧ wipeS s2 own = wipeS s1 own) : lcM own turn src s = .ok (.ow (.lst (xs.filterMap o))) s1 := by
  have hl : (xs.map f).length < sizeLine := by rw [List.length_map]; exact hl
  show ((src s).bind fun ds s => (if own.all (fun i => notOw (s.getD i .un)) && decide (ds.length < sizeLine) then
    (match lcGo own turn ds (wipeS s own) with
    | .bad => R.bad
    | .err _ _ => R.bad
    | .ok xs s' => R.ok (Sl.ow (Ob.lst xs)) (backS s s' own))
  else R.bad)) = _
  rw [hsrc]
  show (if own.all (fun i => notOw (s1.getD i .un)) && decide ((xs.map f).length < sizeLine) then
    (match lcGo own turn (xs.map f) (wipeS s1 own) with
    | .bad => R.bad
    | .err _ _ => R.bad
    | .ok xs s' => R.ok (Sl.ow (Ob.lst xs)) (backS s1 s' own))
  else R.bad) = _
  rw [if_pos (by rw [hno, decide_eq_true hl] <;> rfl), lcGo_all h]
  show R.ok _ (backS s1 (wipeS s1 own) own) = _
  rw [back_self hi]
theorem q_ownL {i : Nat} {s : S} : ownL i s = match s[i]? with
  | some (.ow (.lst xs)) => .ok xs s
  | _ => .bad := rfl
theorem q_nonM {i : Nat} {xs : List D} {s : S} : nonM i xs s = .ok (.sh .none) (s.set i (.ow (.lst xs))) := rfl
theorem q_setL {i : Nat} {xs : List D} {s : S} : setL i xs s = .ok () (s.set i (.ow (.lst xs))) := rfl
theorem q_app' {i : Nat} {d : D} {xs : List D} {s : S} (h : xs.length < sizeLine) : appM i d xs s = nonM i (xs ++ [d]) s := by
  unfold appM
  rw [if_pos h]
theorem q_ext' {i : Nat} {ys xs : List D} {s : S} (h : xs.length + ys.length ≤ sizeLine) : extM i (.list ys) xs s = nonM i (xs ++ ys) s := by
  show (if xs.length + ys.length ≤ sizeLine then nonM i (xs ++ ys) else bad) s = _
  rw [if_pos h]
theorem q_six' {i : Nat} {n : Int} {d : D} {s : S} : sixM i (.int n) d s = (ownL i s).bind fun xs s1 => sixJ i d xs (L2.ixN xs.length n) s1 := rfl
theorem q_sixJ {i j : Nat} {d : D} {xs : List D} : sixJ i d xs (some j) = setL i (xs.set j d) := rfl
theorem q_pt {i : Nat} {d : D} {s : S} : putT (.name i) d s = setS i (.sh d) s := rfl
theorem q_pt2 {a b : Tg} {x y : D} {s : S} : putT (.tup (.cons a (.cons b .nil))) (.tuple [x, y]) s = (putT a x s).bind fun _ s1 => (putT b y s1).bind fun _ s2 => R.ok () s2 := rfl
theorem allB_true : ∀ {n : Nat}, allB (List.replicate n (.bool true)) = some true
  | 0 => rfl
  | n + 1 => by
    rw [List.replicate_succ]
    show (allB (List.replicate n (.bool true))).map (true && ·) = _
    rw [allB_true]
    rfl
theorem y_0 {a : D} {l : List D} : ixD (.list (a :: l)) (.int 0) = some a := by
  show L2.atI (a :: l) 0 = some a
  unfold L2.atI L2.ixN
  rw [if_pos (by decide), if_pos (by rw [List.length_cons]; omega)]
  rfl
theorem p_non {m : M Sl} {s : S} : partM .non m s = .ok none s := rfl
theorem p_int {i : Int} {s : S} : partM (.int i) (M.pure (.sh (.int i))) s = .ok (some i) s := rfl
theorem sl_l {xs : List D} {lo hi : Option Int} : slD (.list xs) lo hi = some (.ow (.lst (cutD xs lo hi))) := rfl
theorem cut_1 {α : Type} {xs : List α} : cutD xs (some 1) none = xs.drop 1 := by
  unfold cutD HT.sIx
  cases xs with
  | nil => rfl
  | cons a l => simp
theorem fm_if {α β : Type} {p : α → Prop} [DecidablePred p] {f : α → β} : ∀ {xs : List α}, xs.filterMap (fun x => if p x then some (f x) else none) = (xs.filter fun x => decide (p x)).map f
  | [] => rfl
  | x :: xs => by
    rw [List.filterMap_cons, List.filter_cons]
    by_cases h : p x
    · rw [if_pos h, if_pos (decide_eq_true h), List.map_cons, fm_if]
    · rw [if_neg h, if_neg (by simpa using h), fm_if]
theorem k_pow18 : binD .Pow (.int 10) (.int 18) = some (.sh (.int 1000000000000000000)) := rfl
theorem k_neb {a b : Bool} : cmpD .NotEq (.bool a) (.bool b) = some (!(a == b)) := by cases a <;> cases b <;> rfl
theorem k_eqb {a b : Bool} : cmpD .Eq (.bool a) (.bool b) = some (a == b) := by cases a <;> cases b <;> rfl
theorem ixN20 : L2.ixN 2 0 = some 0 := rfl
theorem ixN21 : L2.ixN 2 1 = some 1 := rfl
theorem ix_of {xs : List D} {r : Int} (h0 : 0 ≤ r) (h : r.toNat < xs.length) : ixD (.list xs) (.int r) = some (xs[r.toNat]'h) := by
  show L2.atI xs r = _
  unfold L2.atI L2.ixN
  rw [if_pos h0, if_pos (by omega)]
  show xs[r.toNat]? = _
  exact List.getElem?_eq_getElem h
theorem fmod_in {a m : Int} (h : 0 < m) : 0 ≤ a.fmod m ∧ a.fmod m < m := ⟨Int.fmod_nonneg_of_pos a h, Int.fmod_lt_of_pos a h⟩
theorem fo_of {C : Cal} {P : List Nat} {src : Src} {tg : Tg} {b : Sts} {s s1 : S} {ds : List D} {r : R Fl} (ho : okT P tg = true) (hsrc : evSrc C src s = .ok ds s1) (hgo : foGo (fun d => (putT tg d).bind fun _ => evSs C P b) ds s1 = r) : evS C P (.fo src tg b) s = r := by
  rw [q_fo, if_pos ho]
  show (evSrc C src s).bind _ = r
  rw [hsrc]
  exact hgo
theorem rng_1 {n : Nat} (h : n < 1000000) : rngD [.int (n : Int)] = some ((List.range n).map fun (i : Nat) => PyData.int (i : Int)) := by
  unfold rngD
  dsimp only
  rw [if_pos ⟨by omega, by omega⟩, Int.toNat_natCast]
theorem src_rng1 {C : Cal} {e : Ex} {s s1 : S} {i : Int} {ds : List D} (h : evE C e s = .ok (.sh (.int i)) s1) (hr : rngD [.int i] = some ds) : evSrc C (.rng (.cons e .nil)) s = .ok ds s1 := by
  show (((evE C e s).bind fun r s' => lift r.data s').bind fun d s1 => R.ok [d] s1).bind (fun ds s1 => lift (rngD ds) s1) = _
  rw [h]
  show lift (rngD [.int i]) s1 = _
  rw [hr]
  rfl
theorem lcM_3 {own : List Nat} {turn : D → M (Option D)} {src : M (List D)} {s s1 t0 t1 t2 : S} {d0 d1 d2 v0 v1 v2 : D} (hsrc : src s = .ok [d0, d1, d2] s1) (hno : own.all (fun i => notOw (s1.getD i .un)) = true)
    (h0 : turn d0 (wipeS s1 own) = .ok (some v0) t0) (h1 : turn d1 (wipeS t0 own) = .ok (some v1) t1) (h2 : turn d2 (wipeS t1 own) = .ok (some v2) t2) : lcM own turn src s = .ok (.ow (.lst [v0, v1, v2])) (backS s1 (wipeS t2 own) own) := by
  have st : ∀ (d : D) (ds : List D) (s : S), lcGo own turn (d :: ds) s = (turn d s).bind fun o s1 => (lcGo own turn ds (wipeS s1 own)).bind fun r s2 => R.ok (optCons o r) s2 := fun _ _ _ => rfl
  have g : lcGo own turn [d0, d1, d2] (wipeS s1 own) = .ok [v0, v1, v2] (wipeS t2 own) := by
    rw [st, h0]
    show (lcGo own turn [d1, d2] (wipeS t0 own)).bind _ = _
    rw [st, h1]
    show ((lcGo own turn [d2] (wipeS t1 own)).bind _).bind _ = _
    rw [st, h2]
    rfl
  show ((src s).bind fun ds s => (if own.all (fun i => notOw (s.getD i .un)) && decide (ds.length < sizeLine) then
    (match lcGo own turn ds (wipeS s own) with
    | .bad => R.bad
    | .err _ _ => R.bad
    | .ok xs s' => R.ok (Sl.ow (Ob.lst xs)) (backS s s' own))
  else R.bad)) = _
  rw [hsrc]
  have l : decide ([d0, d1, d2].length < sizeLine) = true := decide_eq_true (show 3 < sizeLine by decide)
  show (if own.all (fun i => notOw (s1.getD i .un)) && decide ([d0, d1, d2].length < sizeLine) then
    (match lcGo own turn [d0, d1, d2] (wipeS s1 own) with
    | .bad => R.bad
    | .err _ _ => R.bad
    | .ok xs s' => R.ok (Sl.ow (Ob.lst xs)) (backS s1 s' own))
  else R.bad) = _
  rw [hno, l, g]
  rfl
theorem k_pow9 : binD .Pow (.int 10) (.int 9) = some (.sh (.int 1000000000)) := rfl
theorem lcGo_s {own : List Nat} {turn : D → M (Option D)} {d v : D} {ds vs : List D} {s s1 s2 : S} (h : turn d s = .ok (some v) s1) (hr : lcGo own turn ds (wipeS s1 own) = .ok vs s2) : lcGo own turn (d :: ds) s = .ok (v :: vs) s2 := by
  show ((turn d s).bind fun o s1 => (lcGo own turn ds (wipeS s1 own)).bind fun r s2 => R.ok (optCons o r) s2) = _
  rw [h]
  show ((lcGo own turn ds (wipeS s1 own)).bind fun r s2 => R.ok (optCons (some v) r) s2) = _
  rw [hr]
  rfl
theorem rng_4 : rngD [.int 4] = some [.int 0, .int 1, .int 2, .int 3] := (rng_1 (n := 4) (by decide)).trans rfl
theorem rng_2 : rngD [.int 2] = some [.int 0, .int 1] := (rng_1 (n := 2) (by decide)).trans rfl
theorem rng_3 : rngD [.int 3] = some [.int 0, .int 1, .int 2] := (rng_1 (n := 3) (by decide)).trans rfl
/-- a comprehension's turn -/
noncomputable abbrev lcT (C : Cal) (tg : Tg) (c e : Ex) : D → M (Option D) := fun d => (putT tg d).bind fun _ => (testM (evE C c)).bind fun q => if q then (frz (evE C e)).bind fun x => M.pure (some x) else M.pure none
theorem lc_run {C : Cal} {src : Src} {tg : Tg} {c e : Ex} {own : List Nat} {s s1 s2 : S} {ds vs : List D} (hsrc : evSrc C src s = .ok ds s1) (hl : ds.length < sizeLine) (hi : own.all (fun i => notOw (s1.getD i .un)) = true) (hg : lcGo own (lcT C tg c e) ds (wipeS s1 own) = .ok vs s2) :
    evE C (.lc src tg c e own) s = .ok (.ow (.lst vs)) (backS s1 s2 own) := by
  show ((evSrc C src s).bind fun ds s => (if own.all (fun i => notOw (s.getD i .un)) && decide (ds.length < sizeLine) then
    (match lcGo own (lcT C tg c e) ds (wipeS s own) with
    | .bad => R.bad
    | .err _ _ => R.bad
    | .ok xs s' => R.ok (Sl.ow (Ob.lst xs)) (backS s s' own))
  else R.bad)) = _
  rw [hsrc]
  show (if own.all (fun i => notOw (s1.getD i .un)) && decide (ds.length < sizeLine) then
    (match lcGo own (lcT C tg c e) ds (wipeS s1 own) with
    | .bad => R.bad
    | .err _ _ => R.bad
    | .ok xs s' => R.ok (Sl.ow (Ob.lst xs)) (backS s1 s' own))
  else R.bad) = _
  rw [if_pos (by rw [hi, decide_eq_true hl] <;> rfl), hg]
theorem lcGo_n {own : List Nat} {turn : D → M (Option D)} {s : S} : lcGo own turn [] s = .ok [] s := rfl
theorem lcGo_o {own : List Nat} {turn : D → M (Option D)} {d : D} {ds vs : List D} {s s1 s2 : S} (h : turn d s = .ok none s1) (hr : lcGo own turn ds (wipeS s1 own) = .ok vs s2) : lcGo own turn (d :: ds) s = .ok vs s2 := by
  show ((turn d s).bind fun o s1 => (lcGo own turn ds (wipeS s1 own)).bind fun r s2 => R.ok (optCons o r) s2) = _
  rw [h]
  show ((lcGo own turn ds (wipeS s1 own)).bind fun r s2 => R.ok (optCons none r) s2) = _
  rw [hr]
  rfl
/-! ### walks and comprehensions over lists that are written out -/
theorem foGo_c {turn : D → M Fl} {d : D} {ds : List D} {s : S} : foGo turn (d :: ds) s = (turn d s).bind fun f s1 => match f with
    | .nx => foGo turn ds s1
    | .rt r => .ok (.rt r) s1 := by
  show (turn d s).bind _ = _
  congr 1
  funext f s1
  cases f <;> rfl
theorem lcM_app {own : List Nat} {turn : D → M (Option D)} {src : M (List D)} {s : S} : lcM own turn src s = (src s).bind fun ds s => if own.all (fun i => notOw (s.getD i .un)) && decide (ds.length < sizeLine) then
    (match lcGo own turn ds (wipeS s own) with
    | .bad => R.bad
    | .err _ _ => R.bad
    | .ok xs s' => R.ok (Sl.ow (Ob.lst xs)) (backS s s' own))
  else R.bad := rfl
theorem lcL_app {own : List Nat} {turn : D → M (Option D)} {i : Nat} {s : S} : lcL own turn i s = match s[i]? with
  | some (.ow (.lst ds)) => (match lcM own turn (M.pure ds) (s.set i .un) with
    | .ok r s' => (match s'[i]? with
      | some .un => .ok r (s'.set i (.ow (.lst ds)))
      | _ => .bad)
    | _ => .bad)
  | _ => .bad := rfl
theorem lcGo_c {own : List Nat} {turn : D → M (Option D)} {d : D} {ds : List D} {s : S} : lcGo own turn (d :: ds) s = (turn d s).bind fun o s1 => (lcGo own turn ds (wipeS s1 own)).bind fun r s2 => R.ok (optCons o r) s2 := rfl
theorem wipe0 {s : S} : wipeS s [] = s := rfl
theorem wipe1 {s : S} {v : Nat} {vs : List Nat} : wipeS s (v :: vs) = (wipeS s vs).set v .un := rfl
theorem back0 {a s : S} : backS a s [] = s := rfl
theorem back1 {a s : S} {v : Nat} {vs : List Nat} : backS a s (v :: vs) = (backS a s vs).set v (a.getD v .un) := rfl
theorem now0 : notOw .un = true := rfl
theorem now1 {d : D} : notOw (.sh d) = true := rfl
theorem oc0 {r : List D} : optCons none r = r := rfl
theorem oc1 {x : D} {r : List D} : optCons (some x) r = x :: r := rfl
theorem sl0 : decide (0 < sizeLine) = true := by decide
theorem sl1 : decide (1 < sizeLine) = true := by decide
theorem sl2 : decide (2 < sizeLine) = true := by decide
theorem sl3 : decide (3 < sizeLine) = true := by decide
theorem sl4 : decide (4 < sizeLine) = true := by decide
theorem sl5 : decide (5 < sizeLine) = true := by decide
theorem ok_n {i : Nat} : okT [] (.name i) = true := rfl
end Hg
set_option Elab.async false
set_option linter.all false
set_option maxRecDepth 100000
set_option maxHeartbeats 400000
/-! Fractions as the texts have them; bounds. -/
namespace Hg
open PySem
/-- a fraction in its lowest terms -/
def fr (q : Rat) : D := .tuple [.int q.num, .int (q.den : Int)]
def Bi (n : Nat) (i : Int) : Prop := i.natAbs < 2 ^ n
def Bt (n : Nat) (q : Rat) : Prop := Bi n q.num ∧ Bi n (q.den : Int)
theorem log2_le {x n : Nat} (h : x < 2 ^ n) : x.log2 ≤ n := by
  by_cases z : x = 0
  · rw [z]
    show (0 : Nat).log2 ≤ n
    rw [show (0 : Nat).log2 = 0 by decide]
    omega
  · exact Nat.le_of_lt ((Nat.log2_lt z).mpr h)
theorem Bi.mono {n m : Nat} {i : Int} (h : Bi n i) (l : n ≤ m) : Bi m i := Nat.lt_of_lt_of_le h (Nat.pow_le_pow_right (by decide) l)
theorem Bt.mono {n m : Nat} {q : Rat} (h : Bt n q) (l : n ≤ m) : Bt m q := ⟨h.1.mono l, h.2.mono l⟩
theorem okMul_of {n m : Nat} {i j : Int} (h : Bi n i) (h2 : Bi m j) (l : n + m < 1000000) : okMul i j = true := by
  have a := log2_le h
  have b := log2_le h2
  unfold okMul
  exact decide_eq_true (by omega)
theorem okDiv_of {n : Nat} {j : Int} (h : Bi n j) (z : j ≠ 0) (l : n < 9000) : okDiv j = true := by
  have a := log2_le h
  unfold okDiv
  rw [decide_eq_true z, decide_eq_true (show j.natAbs.log2 < 9000 by omega)]
  rfl
theorem Bi.mul {n m : Nat} {i j : Int} (h : Bi n i) (h2 : Bi m j) : Bi (n + m) (i * j) := by
  unfold Bi at *
  rw [Int.natAbs_mul, Nat.pow_add]
  exact Nat.mul_lt_mul'' h h2
theorem Bi.add {n m : Nat} {i j : Int} (h : Bi n i) (h2 : Bi m j) (k : Nat) (l1 : n < k) (l2 : m < k) : Bi k (i + j) := by
  unfold Bi at *
  have a := Nat.pow_le_pow_right (n := 2) (by decide) (show n ≤ k - 1 by omega)
  have b := Nat.pow_le_pow_right (n := 2) (by decide) (show m ≤ k - 1 by omega)
  have c : 2 ^ k = 2 ^ (k - 1) + 2 ^ (k - 1) := by
    rw [show k = (k - 1) + 1 by omega, Nat.pow_succ]
    simp
    omega
  omega
theorem Bi.neg {n : Nat} {i : Int} (h : Bi n i) : Bi n (-i) := by
  unfold Bi at *
  rwa [Int.natAbs_neg]
theorem Bi.sub {n m : Nat} {i j : Int} (h : Bi n i) (h2 : Bi m j) (k : Nat) (l1 : n < k) (l2 : m < k) : Bi k (i - j) := by
  rw [Int.sub_eq_add_neg]
  exact h.add h2.neg k l1 l2
theorem Bi.abs {n : Nat} {i : Int} (h : Bi n i) : Bi n (if i < 0 then -i else i) := by
  split
  · exact h.neg
  · exact h
/-- the whole number that both are divided by -/
def byOf (a b : Int) : Int := if b < 0 then 0 - ((a.natAbs.gcd b.natAbs : Nat) : Int) else ((a.natAbs.gcd b.natAbs : Nat) : Int)
theorem byOf_ne {a b : Int} (h : b ≠ 0) : byOf a b ≠ 0 := by
  have z : 0 < a.natAbs.gcd b.natAbs := Nat.gcd_pos_of_pos_right _ (by omega)
  unfold byOf
  split <;> omega
theorem byOf_bi {a b : Int} {n : Nat} (h : b ≠ 0) (hb : Bi n b) : Bi n (byOf a b) := by
  have z : a.natAbs.gcd b.natAbs ≤ b.natAbs := Nat.gcd_le_right _ (by omega)
  unfold Bi at *
  unfold byOf
  split <;> omega
theorem byOf_dvd (a b : Int) : byOf a b ∣ a ∧ byOf a b ∣ b := by
  have h1 : ((a.natAbs.gcd b.natAbs : Nat) : Int) ∣ a := Int.gcd_dvd_left (a := a) (b := b)
  have h2 : ((a.natAbs.gcd b.natAbs : Nat) : Int) ∣ b := Int.gcd_dvd_right (a := a) (b := b)
  unfold byOf
  split
  · rw [Int.zero_sub]
    exact ⟨Int.neg_dvd.mpr h1, Int.neg_dvd.mpr h2⟩
  · exact ⟨h1, h2⟩
theorem div_num {a b : Int} (h : b ≠ 0) : a.fdiv (byOf a b) = (Rat.divInt a b).num ∧ b.fdiv (byOf a b) = ((Rat.divInt a b).den : Int) := by
  obtain ⟨d1, d2⟩ := byOf_dvd a b
  rw [Int.fdiv_eq_ediv_of_dvd d1, Int.fdiv_eq_ediv_of_dvd d2, Rat.num_divInt, Rat.den_divInt, if_neg h]
  have e : Int.gcd b a = a.natAbs.gcd b.natAbs := by rw [Int.gcd_comm] <;> rfl
  rw [e]
  have h1 : ((a.natAbs.gcd b.natAbs : Nat) : Int) ∣ a := Int.gcd_dvd_left (a := a) (b := b)
  have h2 : ((a.natAbs.gcd b.natAbs : Nat) : Int) ∣ b := Int.gcd_dvd_right (a := a) (b := b)
  unfold byOf
  by_cases n : b < 0
  · rw [if_pos n, Int.sign_eq_neg_one_of_neg n, Int.zero_sub, Int.ediv_neg, Int.ediv_neg]
    refine ⟨?_, ?_⟩
    · rw [show (-1 : Int) * a = -a by omega, Int.neg_ediv_of_dvd h1]
    · rw [Int.natCast_ediv, ← Int.neg_ediv_of_dvd h2]
      congr 1
      omega
  · rw [if_neg n, Int.sign_eq_one_of_pos (by omega), Int.one_mul]
    refine ⟨rfl, ?_⟩
    rw [Int.natCast_ediv]
    congr 1
    omega
theorem Bt.divInt {n : Nat} {a b : Int} (h : b ≠ 0) (ha : Bi n a) (hb : Bi n b) : Bt n (Rat.divInt a b) := by
  obtain ⟨e1, e2⟩ := div_num (a := a) h
  obtain ⟨d1, d2⟩ := byOf_dvd a b
  rw [Int.fdiv_eq_ediv_of_dvd d1] at e1
  rw [Int.fdiv_eq_ediv_of_dvd d2] at e2
  refine ⟨?_, ?_⟩
  · rw [← e1]
    exact Nat.lt_of_le_of_lt (Int.natAbs_ediv_le_natAbs _ _) ha
  · rw [← e2]
    exact Nat.lt_of_le_of_lt (Int.natAbs_ediv_le_natAbs _ _) hb
theorem den_ne (q : Rat) : (q.den : Int) ≠ 0 := by
  have := q.den_nz
  omega
theorem rat_add (a b : Rat) : a + b = Rat.divInt (a.num * b.den + b.num * a.den) (a.den * b.den) := by
  have z := Rat.divInt_add_divInt a.num b.num (den_ne a) (den_ne b)
  rwa [Rat.num_divInt_den, Rat.num_divInt_den] at z
theorem rat_mul (a b : Rat) : a * b = Rat.divInt (a.num * b.num) (a.den * b.den) := by
  have z := Rat.divInt_mul_divInt a.num b.num (d₁ := a.den) (d₂ := b.den)
  rwa [Rat.num_divInt_den, Rat.num_divInt_den] at z
theorem rn_neg (a : Rat) : (-a).num = -a.num := rfl
theorem rd_neg (a : Rat) : (-a).den = a.den := rfl
theorem rat_neg (a : Rat) : fr (-a) = .tuple [.int (0 - a.num), .int (a.den : Int)] := by
  unfold fr
  rw [rn_neg, rd_neg, Int.zero_sub]
theorem rat_sub (a b : Rat) : a - b = Rat.divInt (a.num * b.den - b.num * a.den) (a.den * b.den) := by
  rw [Rat.sub_eq_add_neg, rat_add, rn_neg, rd_neg]
  rw [Int.neg_mul, ← Int.sub_eq_add_neg]
theorem rat_div (a b : Rat) (h : b.num ≠ 0) : a / b = Rat.divInt (a.num * b.den) (a.den * b.num) := by
  rw [Rat.div_def, Rat.inv_def]
  have z := Rat.divInt_mul_divInt a.num b.den (d₁ := a.den) (d₂ := b.num)
  rwa [Rat.num_divInt_den] at z
theorem Bt.add {n m : Nat} {a b : Rat} (ha : Bt n a) (hb : Bt m b) : Bt (n + m + 1) (a + b) := by
  rw [rat_add]
  refine Bt.divInt (Int.mul_ne_zero (den_ne a) (den_ne b)) ?_ ((ha.2.mul hb.2).mono (by omega))
  exact (ha.1.mul hb.2).add (hb.1.mul ha.2) _ (by omega) (by omega)
theorem Bt.sub {n m : Nat} {a b : Rat} (ha : Bt n a) (hb : Bt m b) : Bt (n + m + 1) (a - b) := by
  rw [rat_sub]
  refine Bt.divInt (Int.mul_ne_zero (den_ne a) (den_ne b)) ?_ ((ha.2.mul hb.2).mono (by omega))
  exact (ha.1.mul hb.2).sub (hb.1.mul ha.2) _ (by omega) (by omega)
theorem Bt.mul {n m : Nat} {a b : Rat} (ha : Bt n a) (hb : Bt m b) : Bt (n + m) (a * b) := by
  rw [rat_mul]
  exact Bt.divInt (Int.mul_ne_zero (den_ne a) (den_ne b)) (ha.1.mul hb.1) (ha.2.mul hb.2)
theorem Bt.div {n m : Nat} {a b : Rat} (h : b ≠ 0) (ha : Bt n a) (hb : Bt m b) : Bt (n + m) (a / b) := by
  have h : b.num ≠ 0 := fun z => h (Rat.num_eq_zero.mp z)
  rw [rat_div a b h]
  exact Bt.divInt (Int.mul_ne_zero (den_ne a) h) (ha.1.mul hb.2) (ha.2.mul hb.1)
theorem Bt.neg {n : Nat} {a : Rat} (ha : Bt n a) : Bt n (-a) := by
  refine ⟨?_, ?_⟩
  · rw [rn_neg]
    exact ha.1.neg
  · rw [rd_neg]
    exact ha.2
/-- the size -/
def ab (a : Rat) : Rat := if a.num < 0 then -a else a
theorem fr_ab (a : Rat) : fr (ab a) = .tuple [.int (if a.num < 0 then -a.num else a.num), .int (a.den : Int)] := by
  unfold fr ab
  split <;> rfl
theorem num_neg_iff {a : Rat} : a.num < 0 ↔ a < 0 := by
  rw [← Int.not_le, Rat.num_nonneg, Rat.not_le]
theorem ab_sq (a : Rat) : ab a * ab a = a * a := by
  unfold ab
  split <;> grind
theorem ab_mul (a b : Rat) : ab (a * b) = ab a * ab b := by
  have key : ∀ {x : Rat}, (0 ≤ x → ab x = x) ∧ (x ≤ 0 → ab x = -x) := fun {x} => by
    unfold ab
    simp only [num_neg_iff]
    grind
  rcases Rat.le_total (a := 0) (b := a) with ha | ha <;> rcases Rat.le_total (a := 0) (b := b) with hb | hb
  · rw [key.1 ha, key.1 hb, key.1 (Rat.mul_nonneg ha hb)]
  · have z := Rat.mul_nonneg ha (show 0 ≤ -b by grind)
    rw [key.1 ha, key.2 hb, key.2 (show a * b ≤ 0 by grind)]
    grind
  · have z := Rat.mul_nonneg (show 0 ≤ -a by grind) hb
    rw [key.2 ha, key.1 hb, key.2 (show a * b ≤ 0 by grind)]
    grind
  · have z := Rat.mul_nonneg (show 0 ≤ -a by grind) (show 0 ≤ -b by grind)
    rw [key.2 ha, key.2 hb, key.1 (show 0 ≤ a * b by grind)]
    grind
theorem Bt.ab {n : Nat} {a : Rat} (h : Bt n a) : Bt n (Hg.ab a) := by
  unfold Hg.ab
  split
  · exact h.neg
  · exact h
theorem Bt.nat {n : Nat} {i : Nat} (hn : n ≠ 0) (h : i < 2 ^ n) : Bt n (i : Rat) := by
  refine ⟨?_, ?_⟩
  · show Bi n (i : Int)
    unfold Bi
    omega
  · show Bi n (1 : Int)
    unfold Bi
    have := Nat.one_lt_two_pow hn
    exact this
theorem eq_fr (a b : Rat) : eqD (fr a) (fr b) = some (decide (a = b)) := by
  have e : eqD (fr a) (fr b) = some (PyData.eqv (fr a) (fr b)) := rfl
  rw [e]
  congr 1
  by_cases h : a = b
  · subst h
    simp [fr, PyData.eqv, PyData.eqvAll]
  · rw [decide_eq_false h]
    have h2 : ¬ (a.num = b.num ∧ a.den = b.den) := fun z => h (Rat.ext z.1 z.2)
    simp [fr, PyData.eqv, PyData.eqvAll]
    omega
/-! ### squares -/
theorem sq_num (r : Rat) : (r * r).num = r.num * r.num ∧ (r * r).den = r.den * r.den := by
  have c : (r.num * r.num).natAbs.Coprime (r.den * r.den) := by
    rw [Int.natAbs_mul]
    exact Nat.Coprime.mul_left (Nat.Coprime.mul_right r.reduced r.reduced) (Nat.Coprime.mul_right r.reduced r.reduced)
  rw [Rat.mul_def, Rat.normalize_eq]
  have c1 : (r.num * r.num).natAbs.gcd (r.den * r.den) = 1 := c
  refine ⟨?_, ?_⟩
  · show r.num * r.num / (((r.num * r.num).natAbs.gcd (r.den * r.den) : Nat) : Int) = _
    rw [c1]
    simp
  · show r.den * r.den / (r.num * r.num).natAbs.gcd (r.den * r.den) = _
    rw [c1]
    simp
/-- a whole number's root, from below -/
def Rt (n r : Nat) : Prop := r * r ≤ n ∧ n < (r + 1) * (r + 1)
theorem Rt.uniq {n r r' : Nat} (h : Rt n r) (h' : Rt n r') : r = r' := by
  rcases Nat.lt_trichotomy r r' with z | z | z
  · have := Nat.mul_le_mul (show r + 1 ≤ r' from z) (show r + 1 ≤ r' from z)
    have a := h.2
    have b := h'.1
    omega
  · exact z
  · have := Nat.mul_le_mul (show r' + 1 ≤ r from z) (show r' + 1 ≤ r from z)
    have a := h'.2
    have b := h.1
    omega
theorem Rt.sq (r : Nat) : Rt (r * r) r := ⟨Nat.le_refl _, by rw [Nat.add_mul, Nat.mul_add]; omega⟩
theorem amgm (x y : Nat) : 4 * (x * y) ≤ (x + y) * (x + y) := by
  rcases Nat.le_total x y with z | z
  · obtain ⟨e, rfl⟩ := Nat.exists_eq_add_of_le z
    have h : (x + (x + e)) * (x + (x + e)) = 4 * (x * (x + e)) + e * e := by grind
    omega
  · obtain ⟨e, rfl⟩ := Nat.exists_eq_add_of_le z
    have h : (y + e + y) * (y + e + y) = 4 * ((y + e) * y) + e * e := by grind
    omega
/-- a step from above stays above -/
theorem newton {n x : Nat} (hx : 0 < x) : n < ((x + n / x) / 2 + 1) * ((x + n / x) / 2 + 1) := by
  have h1 : n < x * (n / x + 1) := Nat.lt_mul_div_succ n hx
  generalize n / x = q at h1 ⊢
  have h2 : x + q + 1 ≤ 2 * ((x + q) / 2 + 1) := by omega
  generalize (x + q) / 2 + 1 = m at h2 ⊢
  have h3 : (x + q + 1) * (x + q + 1) ≤ (2 * m) * (2 * m) := Nat.mul_le_mul h2 h2
  have h4 : 4 * (x * (q + 1)) ≤ (x + (q + 1)) * (x + (q + 1)) := amgm x (q + 1)
  rw [← Nat.add_assoc] at h4
  have h5 : (2 * m) * (2 * m) = 4 * (m * m) := by
    rw [Nat.mul_mul_mul_comm]
  omega
end Hg
set_option Elab.async false
set_option linter.all false
set_option maxRecDepth 100000
set_option maxHeartbeats 400000
/-! A law that walks its cells. -/
namespace Hg
open PySem
abbrev rngC (c : Int) : Src := .rng (.cons (.bf .max (.cons (.int 1) (.cons (.bf .min (.cons (.bf .len (.cons (.var 0) .nil)) (.cons (.int c) .nil))) .nil))) .nil)
theorem rngC_run {C : Cal} {c : Nat} {ns : List Int} {t : S} (hl : ns.length ≤ 63) (hc : c ≤ 63) : ∃ n : Nat, n ≤ 63 ∧ evSrc C (rngC (c : Int)) (lawArg ns :: t) = .ok ((List.range n).map fun (i : Nat) => PyData.int (i : Int)) (lawArg ns :: t) := by
  have h1 : (ns.map PyData.int).length = ns.length := List.length_map _
  have hn : ∃ n : Nat, n ≤ 63 ∧ (if (if (c : Int) < ((ns.map PyData.int).length : Int) then (c : Int) else ((ns.map PyData.int).length : Int)) > 1 then (if (c : Int) < ((ns.map PyData.int).length : Int) then (c : Int) else ((ns.map PyData.int).length : Int)) else (1 : Int)) = (n : Int) := by
    rw [h1]
    by_cases c1 : (c : Int) < (ns.length : Int)
    · rw [if_pos c1]
      by_cases c2 : (c : Int) > 1
      · rw [if_pos c2]
        exact ⟨c, hc, rfl⟩
      · rw [if_neg c2]
        exact ⟨1, by decide, rfl⟩
    · rw [if_neg c1]
      by_cases c2 : (ns.length : Int) > 1
      · rw [if_pos c2]
        exact ⟨ns.length, hl, rfl⟩
      · rw [if_neg c2]
        exact ⟨1, by decide, rfl⟩
  obtain ⟨n, n1, hn⟩ := hn
  refine ⟨n, n1, src_rng1 (i := (n : Int)) ?_ (rng_1 (n := n) (by omega))⟩
  rw [← hn]
  rfl
theorem law_of {C : Cal} {fd : Fd} {c : Nat} {body : Sts} {ns : List Int} (hb : fd.body = .cons (.fo (rngC (c : Int)) (.name 1) body) (.cons (.ret (.bl true)) .nil)) (hio : fd.io = [false]) (hl : ns.length ≤ 63) (hc : c ≤ 63)
    (I : S → Prop) (h0 : I (lawArg ns :: List.replicate (fd.N.length - 1) .un)) (hI : ∀ s, I s → ∃ t, s = lawArg ns :: t) (turn : ∀ (i : Nat) (s : S), I s → ∃ s1, ((putT (.name 1) (.int (i : Int))).bind fun _ => evSs C [] body) s = .ok .nx s1 ∧ I s1) :
    runFd C fd [lawArg ns] = .ok (.sh (.bool true)) [] := by
  obtain ⟨n, _, e⟩ := rngC_run (C := C) (c := c) (t := List.replicate (fd.N.length - 1) .un) hl hc
  obtain ⟨s1, e1, i1⟩ := foGo_inv (turn := fun d => (putT (.name 1) d).bind fun _ => evSs C [] body) (I := I) (ds := (List.range n).map fun (i : Nat) => PyData.int (i : Int)) h0 fun d hd s hs => by
    obtain ⟨i, _, rfl⟩ := List.mem_map.mp hd
    exact turn i s hs
  have e2 : evS C [] (.fo (rngC (c : Int)) (.name 1) body) (lawArg ns :: List.replicate (fd.N.length - 1) .un) = .ok .nx s1 := fo_of rfl e e1
  have st : startS fd.N.length [lawArg ns] = lawArg ns :: List.replicate (fd.N.length - 1) .un := rfl
  have gd : goodArgs fd.io [lawArg ns] = true := by rw [hio]; rfl
  have bd : evSs C (ioAt 0 fd.io) fd.body (startS fd.N.length [lawArg ns]) = .ok (.rt (.sh (.bool true))) s1 := by
    rw [st, hb, hio]
    show ((evS C [] (.fo (rngC (c : Int)) (.name 1) body) (lawArg ns :: List.replicate (fd.N.length - 1) .un)).bind fun f s => (match f with
      | .nx => evSs C [] (.cons (.ret (.bl true)) .nil)
      | .rt r => M.pure (.rt r)) s) = _
    rw [e2]
    rfl
  unfold runFd
  rw [if_pos gd, bd, hio]
  rfl
/-! ### refusals -/
theorem rfd_err {p : Pr} {k r g c n : Nat} {es : Exs} {ks : List Nat} {s s1 : S} {ds : List D} (h : 2 ≤ k) (ha : evAs (calAt p k) ((calAt p k).io g) es s = .ok (ds.map Ag.d) s1) (hr : (calAt p (k - 2)).run g (ds.map Sl.sh) = .err ⟨c, none⟩ []) (hn : ks[c]? = some n) :
    evE (calAt p k) (.rfd r g es ks) s = .ok (.ow (.lst [.int (n : Int)])) s1 := by
  obtain ⟨k, rfl⟩ := Nat.exists_eq_add_of_le' h
  have hr : (calAt p k).run g (ds.map Sl.sh) = .err ⟨c, none⟩ [] := hr
  have i1 : ∀ ds : List D, ioIx (ds.map Ag.d) = [] := fun ds => by
    induction ds with
    | nil => rfl
    | cons d ds ih => exact ih
  have i2 : ∀ ds : List D, argSls s1 (ds.map Ag.d) = some (ds.map Sl.sh) := fun ds => by
    induction ds with
    | nil => rfl
    | cons d ds ih =>
      show (match argSl s1 (.d d), argSls s1 (ds.map Ag.d) with
        | some x, some xs => some (x :: xs)
        | _, _ => none) = _
      rw [ih]
      rfl
  have e : evE (calAt p (k + 2)) (.rfd r g es ks) s = rfdM ks ((evAs (calAt p (k + 2)) ((calAt p (k + 2)).io g) es).bind fun as => callR (calAt p k).run g as) s := by
    rw [evE]
    rfl
  have e2 : ((evAs (calAt p (k + 2)) ((calAt p (k + 2)).io g) es).bind fun as => callR (calAt p k).run g as) s = .err ⟨c, none⟩ s1 := by
    show (evAs (calAt p (k + 2)) ((calAt p (k + 2)).io g) es s).bind _ = _
    rw [ha]
    show callR (calAt p k).run g (ds.map Ag.d) s1 = _
    unfold callR
    rw [i1, if_pos List.nodup_nil, i2]
    show callE ((calAt p k).run g (ds.map Sl.sh)) [] s1 = _
    rw [hr]
    rfl
  rw [e]
  unfold rfdM frz M.bind
  show (match (((evAs (calAt p (k + 2)) ((calAt p (k + 2)).io g) es).bind fun as => callR (calAt p k).run g as) s).bind (fun r s' => lift r.data s') with
    | .bad => R.bad
    | .ok _ s' => R.ok (Sl.sh .none) s'
    | .err e s' => match ks[e.cls]? with
      | some k => R.ok (Sl.ow (.lst [.int (k : Int)])) s'
      | none => .bad) = _
  rw [e2]
  show (match ks[c]? with
      | some k => R.ok (Sl.ow (.lst [.int (k : Int)])) s1
      | none => .bad) = _
  rw [hn]
/-- [n] == [n] -/
theorem eq_l1 {i j : Int} : cmpD .Eq (.list [.int i]) (.list [.int j]) = some (decide (i = j)) := by
  show some (PyData.eqv (.list [.int i]) (.list [.int j])) = _
  congr 1
  by_cases h : i = j <;> simp [PyData.eqv, PyData.eqvAll, h]
theorem ne_l1 {i j : Int} : cmpD .NotEq (.list [.int i]) (.list [.int j]) = some (!decide (i = j)) := by
  show (cmpD .Eq (.list [.int i]) (.list [.int j])).map (!·) = _
  rw [eq_l1]
  rfl
end Hg
set_option Elab.async false
set_option linter.all false
set_option maxRecDepth 100000
set_option maxHeartbeats 400000
/-! Bounds of small numbers. -/
namespace Hg
open PySem
theorem Bt.n0 : Bt 1 (0 : Rat) := Bt.nat (i := 0) (by decide) (by decide)
theorem Bt.n1 : Bt 1 (1 : Rat) := Bt.nat (i := 1) (by decide) (by decide)
theorem Bt.n2 : Bt 2 (2 : Rat) := Bt.nat (i := 2) (by decide) (by decide)
theorem Bt.n4 : Bt 3 (4 : Rat) := Bt.nat (i := 4) (by decide) (by decide)
end Hg
set_option Elab.async false
set_option linter.all false
set_option maxRecDepth 100000
set_option maxHeartbeats 0
/-! The table's rows. -/
namespace Lw
open PySem Hg
theorem rr {f : Nat} {t : Tp} (k : Nat) (h : g.ds[f]? = some t) : (calAt g.pr (k + 1)).run f = runFd (calAt g.pr k) t.fd := run_at' k h
theorem io_is_whole {k : Nat} : (calAt g.pr k).io i_is_whole = [false] := io_at' k (t := ⟨f_is_whole, _, _, _⟩) rfl
theorem io_is_fraction {k : Nat} : (calAt g.pr k).io i_is_fraction = [false] := io_at' k (t := ⟨f_is_fraction, _, _, _⟩) rfl
theorem io_divisor_of {k : Nat} : (calAt g.pr k).io i_divisor_of = [false] := io_at' k (t := ⟨f_divisor_of, _, _, _⟩) rfl
theorem io_pen_machine {k : Nat} : (calAt g.pr k).io i_pen_machine = [false, false, false, false, false, false] := io_at' k (t := ⟨f_pen_machine, _, _, _⟩) rfl
theorem io_is_joint {k : Nat} : (calAt g.pr k).io i_is_joint = [false, false] := io_at' k (t := ⟨f_is_joint, _, _, _⟩) rfl
theorem io_is_above {k : Nat} : (calAt g.pr k).io i_is_above = [false] := io_at' k (t := ⟨f_is_above, _, _, _⟩) rfl
theorem io_are_joints {k : Nat} : (calAt g.pr k).io i_are_joints = [false, false, false] := io_at' k (t := ⟨f_are_joints, _, _, _⟩) rfl
theorem io_is_step {k : Nat} : (calAt g.pr k).io i_is_step = [false, false] := io_at' k (t := ⟨f_is_step, _, _, _⟩) rfl
theorem io_is_machine {k : Nat} : (calAt g.pr k).io i_is_machine = [false] := io_at' k (t := ⟨f_is_machine, _, _, _⟩) rfl
theorem io__law_cell_at {k : Nat} : (calAt g.pr k).io i__law_cell_at = [false, false] := io_at' k (t := ⟨f__law_cell_at, _, _, _⟩) rfl
theorem io__law_state {k : Nat} : (calAt g.pr k).io i__law_state = [false, false] := io_at' k (t := ⟨f__law_state, _, _, _⟩) rfl
theorem io__law_take {k : Nat} : (calAt g.pr k).io i__law_take = [true, false] := io_at' k (t := ⟨f__law_take, _, _, _⟩) rfl
theorem io__law_divisor {k : Nat} : (calAt g.pr k).io i__law_divisor = [false, false] := io_at' k (t := ⟨f__law_divisor, _, _, _⟩) rfl
theorem io__law_ratio {k : Nat} : (calAt g.pr k).io i__law_ratio = [false, false] := io_at' k (t := ⟨f__law_ratio, _, _, _⟩) rfl
theorem io__law_plus {k : Nat} : (calAt g.pr k).io i__law_plus = [false, false] := io_at' k (t := ⟨f__law_plus, _, _, _⟩) rfl
theorem io__law_minus {k : Nat} : (calAt g.pr k).io i__law_minus = [false, false] := io_at' k (t := ⟨f__law_minus, _, _, _⟩) rfl
theorem io__law_times {k : Nat} : (calAt g.pr k).io i__law_times = [false, false] := io_at' k (t := ⟨f__law_times, _, _, _⟩) rfl
theorem io__law_over {k : Nat} : (calAt g.pr k).io i__law_over = [false, false] := io_at' k (t := ⟨f__law_over, _, _, _⟩) rfl
theorem io__law_small {k : Nat} : (calAt g.pr k).io i__law_small = [true] := io_at' k (t := ⟨f__law_small, _, _, _⟩) rfl
theorem io__law_above {k : Nat} : (calAt g.pr k).io i__law_above = [true] := io_at' k (t := ⟨f__law_above, _, _, _⟩) rfl
theorem io__law_four_rods {k : Nat} : (calAt g.pr k).io i__law_four_rods = [true] := io_at' k (t := ⟨f__law_four_rods, _, _, _⟩) rfl
theorem io__law_same {k : Nat} : (calAt g.pr k).io i__law_same = [false, false] := io_at' k (t := ⟨f__law_same, _, _, _⟩) rfl
theorem io_law {k : Nat} : (calAt g.pr k).io i_law = [false] := io_at' k (t := ⟨f_law, _, _, _⟩) rfl
theorem con_MOST_STEPS {k : Nat} : (calAt g.pr k).con "MOST_STEPS" = some (.int 7) := by rw [con_at']; rfl
end Lw
set_option Elab.async false
set_option linter.all false
set_option maxRecDepth 100000
set_option maxHeartbeats 400000
/-! Fractions: what the text's defs give. -/
namespace Lw
open PySem Hg
abbrev C2 : List Bool := [false, false]
/-- a def's answer, nothing handed back -/
abbrev Rn (C : Cal) (i : Nat) (as : List Sl) (r : D) : Prop := C.run i as = .ok (.sh r) []
theorem gcd_loop (C : Cal) : ∀ (n : Nat) (a b : Nat), b ≤ n → evS C [] (.whl (.cmp .Gt (.var 1) (.int 0)) (.cons (.par 0 1 (.var 1) (.bin .Mod (.var 0) (.var 1))) .nil)) [.sh (.int a), .sh (.int b)] = .ok .nx [.sh (.int (a.gcd b : Nat)), .sh (.int 0)] := by
  intro n
  induction n with
  | zero =>
    intro a b h
    have : b = 0 := by omega
    subst this
    rw [q_whl, whM_f (s1 := [.sh (.int a), .sh (.int 0)])]
    · simp
    · simp only [q_var, q_int, q_str, q_bl, q_non, q_glo, q_bin, q_neg, q_cmp, q_chain, q_and, q_or, q_not, q_ife, q_ix, q_cget, q_dix, q_orv, q_dicm, ky0, ky1, ne_app, q_dic, ne_ok, tr_non, tr_int, tr_lst, q_sl, q_rev, q_tup, q_lst, q_call, n_callN, n_evT, n_tmp, n_isTv, n_isT2, n_isTc, n_aV0, n_aVd, n_aVv, n_hT0, n_hTt, n_hTf, n_scB, n_scI, n_scN, n_scT, n_scL, n_scO, n_let0, n_letD, n_letV, n_letG, q_bf, q_isi, q_lcl, q_app, q_ext, q_pop, q_ins, q_an0, q_an1, q_or0, q_or1, q_ds0, q_ds1, q_os0, q_os1, q_as0, q_as1, q_seq, q_rng, q_zip, q_enu, q_rvd, q_asgN, q_asgT, q_par, q_par3, q_tr, q_trN, q_six, q_exp, q_ret, q_ite, q_rai, q_nil, q_cons, b_app, b_ok, b_bad, b_err, p_app, p_bad, l_some, o_var, f_app, t_app, d_sh, d_ow, r_d, r_v, bM_app, a_t, a_f, rs0, rs1, nx_app, o_int, m_int, o_str, m_str, o_bl, m_bl, o_non, m_non, o_glo, m_glo, o_bin, m_bin, o_neg, m_neg, o_cmp, m_cmp, o_chain, m_chain, o_and, m_and, o_or, m_or, o_not, m_not, o_ife, m_ife, o_ix, m_ix, o_cget, m_cget, o_sl, m_sl, o_orv, m_orv, o_dix, m_dix, o_dic, m_dic, o_tup, m_tup, o_lst, m_lst, o_call, m_call, o_bf, m_bf, o_isi, m_isi, o_lc, m_lc, o_lcl, m_lcl, o_pop, m_pop, o_rfd, m_rfd, m_var, k_add, k_sub, k_mul, k_div, k_mod, k_lt, k_le, k_gt, k_ge, k_isn, k_nisn, k_isb, k_nisb, k_rev, k_eqi, k_nei, x1_0, x2_0, x2_1, x3_0, x3_1, x3_2, x4_0, x4_1, x4_2, x4_3, y2_0, y2_1, y3_0, y3_1, y3_2, n_abs, n_int, n_max, n_min, n_len, n_lent, n_tup, n_all, z0, z1, z2, z3, z4, v_app, opV_app, resV_app, ioV_app, set_app, g0, g1, g2, gS, st0, stS, sz0, sz1, sz2, sz3, sz4, sz5, sz6, sz7, sz8, sz9, sz10, sz11, sz12, sz13, sz14, sz15, sz16, sz17, sz18, sz19, sz20, io_is_whole, io_is_fraction, io_divisor_of, io_pen_machine, io_is_joint, io_is_above, io_are_joints, io_is_step, io_is_machine, io__law_cell_at, io__law_state, io__law_take, io__law_divisor, io__law_ratio, io__law_plus, io__law_minus, io__law_times, io__law_over, io__law_small, io__law_above, io__law_four_rods, io__law_same, io_law, con_MOST_STEPS, asgM, callM, callR, ioIx, argSls, argSl, ioSl, callE, putOuts, outsOf, goodArgs, ioAt, startS, Ob.val, List.set_cons_zero, List.set_cons_succ, List.length_cons, List.length_nil, Nat.reduceAdd, Nat.reduceSub, Nat.reduceLT, Nat.sub_self, List.replicate_zero, List.replicate_succ, List.cons_append, List.nil_append, List.append_nil, reduceIte, Option.map_some, Option.map_none, List.not_mem_nil, List.nodup_nil, if_true, if_false, Bool.false_eq_true, eq_self, or_self, or_false, false_or, Bool.not_true, Bool.not_false, List.map_cons, List.map_nil, decide_true, decide_false] <;> rfl
  | succ n ih =>
    intro a b h
    by_cases z : b = 0
    · subst z
      rw [q_whl, whM_f (s1 := [.sh (.int a), .sh (.int 0)])]
      · simp
      · simp only [q_var, q_int, q_str, q_bl, q_non, q_glo, q_bin, q_neg, q_cmp, q_chain, q_and, q_or, q_not, q_ife, q_ix, q_cget, q_dix, q_orv, q_dicm, ky0, ky1, ne_app, q_dic, ne_ok, tr_non, tr_int, tr_lst, q_sl, q_rev, q_tup, q_lst, q_call, n_callN, n_evT, n_tmp, n_isTv, n_isT2, n_isTc, n_aV0, n_aVd, n_aVv, n_hT0, n_hTt, n_hTf, n_scB, n_scI, n_scN, n_scT, n_scL, n_scO, n_let0, n_letD, n_letV, n_letG, q_bf, q_isi, q_lcl, q_app, q_ext, q_pop, q_ins, q_an0, q_an1, q_or0, q_or1, q_ds0, q_ds1, q_os0, q_os1, q_as0, q_as1, q_seq, q_rng, q_zip, q_enu, q_rvd, q_asgN, q_asgT, q_par, q_par3, q_tr, q_trN, q_six, q_exp, q_ret, q_ite, q_rai, q_nil, q_cons, b_app, b_ok, b_bad, b_err, p_app, p_bad, l_some, o_var, f_app, t_app, d_sh, d_ow, r_d, r_v, bM_app, a_t, a_f, rs0, rs1, nx_app, o_int, m_int, o_str, m_str, o_bl, m_bl, o_non, m_non, o_glo, m_glo, o_bin, m_bin, o_neg, m_neg, o_cmp, m_cmp, o_chain, m_chain, o_and, m_and, o_or, m_or, o_not, m_not, o_ife, m_ife, o_ix, m_ix, o_cget, m_cget, o_sl, m_sl, o_orv, m_orv, o_dix, m_dix, o_dic, m_dic, o_tup, m_tup, o_lst, m_lst, o_call, m_call, o_bf, m_bf, o_isi, m_isi, o_lc, m_lc, o_lcl, m_lcl, o_pop, m_pop, o_rfd, m_rfd, m_var, k_add, k_sub, k_mul, k_div, k_mod, k_lt, k_le, k_gt, k_ge, k_isn, k_nisn, k_isb, k_nisb, k_rev, k_eqi, k_nei, x1_0, x2_0, x2_1, x3_0, x3_1, x3_2, x4_0, x4_1, x4_2, x4_3, y2_0, y2_1, y3_0, y3_1, y3_2, n_abs, n_int, n_max, n_min, n_len, n_lent, n_tup, n_all, z0, z1, z2, z3, z4, v_app, opV_app, resV_app, ioV_app, set_app, g0, g1, g2, gS, st0, stS, sz0, sz1, sz2, sz3, sz4, sz5, sz6, sz7, sz8, sz9, sz10, sz11, sz12, sz13, sz14, sz15, sz16, sz17, sz18, sz19, sz20, io_is_whole, io_is_fraction, io_divisor_of, io_pen_machine, io_is_joint, io_is_above, io_are_joints, io_is_step, io_is_machine, io__law_cell_at, io__law_state, io__law_take, io__law_divisor, io__law_ratio, io__law_plus, io__law_minus, io__law_times, io__law_over, io__law_small, io__law_above, io__law_four_rods, io__law_same, io_law, con_MOST_STEPS, asgM, callM, callR, ioIx, argSls, argSl, ioSl, callE, putOuts, outsOf, goodArgs, ioAt, startS, Ob.val, List.set_cons_zero, List.set_cons_succ, List.length_cons, List.length_nil, Nat.reduceAdd, Nat.reduceSub, Nat.reduceLT, Nat.sub_self, List.replicate_zero, List.replicate_succ, List.cons_append, List.nil_append, List.append_nil, reduceIte, Option.map_some, Option.map_none, List.not_mem_nil, List.nodup_nil, if_true, if_false, Bool.false_eq_true, eq_self, or_self, or_false, false_or, Bool.not_true, Bool.not_false, List.map_cons, List.map_nil, decide_true, decide_false] <;> rfl
    · have hm : (b : Int) ≠ 0 := by omega
      have hp : decide ((0 : Int) < (b : Int)) = true := decide_eq_true (by omega)
      have e : (a : Int).fmod (b : Int) = ((a % b : Nat) : Int) := by
        rw [Int.fmod_eq_emod_of_nonneg _ (by omega)]
        rfl
      rw [q_whl, whM_t (s1 := [.sh (.int a), .sh (.int b)]) (s2 := [.sh (.int b), .sh (.int (a % b : Nat))]), ← q_whl, ih b (a % b) (by have := Nat.mod_lt a (show b > 0 by omega); omega)]
      · rw [Nat.gcd_comm a b, Nat.gcd_rec b a, Nat.gcd_comm]
      · simp only [q_var, q_int, q_str, q_bl, q_non, q_glo, q_bin, q_neg, q_cmp, q_chain, q_and, q_or, q_not, q_ife, q_ix, q_cget, q_dix, q_orv, q_dicm, ky0, ky1, ne_app, q_dic, ne_ok, tr_non, tr_int, tr_lst, q_sl, q_rev, q_tup, q_lst, q_call, n_callN, n_evT, n_tmp, n_isTv, n_isT2, n_isTc, n_aV0, n_aVd, n_aVv, n_hT0, n_hTt, n_hTf, n_scB, n_scI, n_scN, n_scT, n_scL, n_scO, n_let0, n_letD, n_letV, n_letG, q_bf, q_isi, q_lcl, q_app, q_ext, q_pop, q_ins, q_an0, q_an1, q_or0, q_or1, q_ds0, q_ds1, q_os0, q_os1, q_as0, q_as1, q_seq, q_rng, q_zip, q_enu, q_rvd, q_asgN, q_asgT, q_par, q_par3, q_tr, q_trN, q_six, q_exp, q_ret, q_ite, q_rai, q_nil, q_cons, b_app, b_ok, b_bad, b_err, p_app, p_bad, l_some, o_var, f_app, t_app, d_sh, d_ow, r_d, r_v, bM_app, a_t, a_f, rs0, rs1, nx_app, o_int, m_int, o_str, m_str, o_bl, m_bl, o_non, m_non, o_glo, m_glo, o_bin, m_bin, o_neg, m_neg, o_cmp, m_cmp, o_chain, m_chain, o_and, m_and, o_or, m_or, o_not, m_not, o_ife, m_ife, o_ix, m_ix, o_cget, m_cget, o_sl, m_sl, o_orv, m_orv, o_dix, m_dix, o_dic, m_dic, o_tup, m_tup, o_lst, m_lst, o_call, m_call, o_bf, m_bf, o_isi, m_isi, o_lc, m_lc, o_lcl, m_lcl, o_pop, m_pop, o_rfd, m_rfd, m_var, k_add, k_sub, k_mul, k_div, k_mod, k_lt, k_le, k_gt, k_ge, k_isn, k_nisn, k_isb, k_nisb, k_rev, k_eqi, k_nei, x1_0, x2_0, x2_1, x3_0, x3_1, x3_2, x4_0, x4_1, x4_2, x4_3, y2_0, y2_1, y3_0, y3_1, y3_2, n_abs, n_int, n_max, n_min, n_len, n_lent, n_tup, n_all, z0, z1, z2, z3, z4, v_app, opV_app, resV_app, ioV_app, set_app, g0, g1, g2, gS, st0, stS, sz0, sz1, sz2, sz3, sz4, sz5, sz6, sz7, sz8, sz9, sz10, sz11, sz12, sz13, sz14, sz15, sz16, sz17, sz18, sz19, sz20, io_is_whole, io_is_fraction, io_divisor_of, io_pen_machine, io_is_joint, io_is_above, io_are_joints, io_is_step, io_is_machine, io__law_cell_at, io__law_state, io__law_take, io__law_divisor, io__law_ratio, io__law_plus, io__law_minus, io__law_times, io__law_over, io__law_small, io__law_above, io__law_four_rods, io__law_same, io_law, con_MOST_STEPS, asgM, callM, callR, ioIx, argSls, argSl, ioSl, callE, putOuts, outsOf, goodArgs, ioAt, startS, Ob.val, List.set_cons_zero, List.set_cons_succ, List.length_cons, List.length_nil, Nat.reduceAdd, Nat.reduceSub, Nat.reduceLT, Nat.sub_self, List.replicate_zero, List.replicate_succ, List.cons_append, List.nil_append, List.append_nil, reduceIte, Option.map_some, Option.map_none, List.not_mem_nil, List.nodup_nil, if_true, if_false, Bool.false_eq_true, eq_self, or_self, or_false, false_or, Bool.not_true, Bool.not_false, List.map_cons, List.map_nil, decide_true, decide_false, hp]
      · simp only [q_var, q_int, q_str, q_bl, q_non, q_glo, q_bin, q_neg, q_cmp, q_chain, q_and, q_or, q_not, q_ife, q_ix, q_cget, q_dix, q_orv, q_dicm, ky0, ky1, ne_app, q_dic, ne_ok, tr_non, tr_int, tr_lst, q_sl, q_rev, q_tup, q_lst, q_call, n_callN, n_evT, n_tmp, n_isTv, n_isT2, n_isTc, n_aV0, n_aVd, n_aVv, n_hT0, n_hTt, n_hTf, n_scB, n_scI, n_scN, n_scT, n_scL, n_scO, n_let0, n_letD, n_letV, n_letG, q_bf, q_isi, q_lcl, q_app, q_ext, q_pop, q_ins, q_an0, q_an1, q_or0, q_or1, q_ds0, q_ds1, q_os0, q_os1, q_as0, q_as1, q_seq, q_rng, q_zip, q_enu, q_rvd, q_asgN, q_asgT, q_par, q_par3, q_tr, q_trN, q_six, q_exp, q_ret, q_ite, q_rai, q_nil, q_cons, b_app, b_ok, b_bad, b_err, p_app, p_bad, l_some, o_var, f_app, t_app, d_sh, d_ow, r_d, r_v, bM_app, a_t, a_f, rs0, rs1, nx_app, o_int, m_int, o_str, m_str, o_bl, m_bl, o_non, m_non, o_glo, m_glo, o_bin, m_bin, o_neg, m_neg, o_cmp, m_cmp, o_chain, m_chain, o_and, m_and, o_or, m_or, o_not, m_not, o_ife, m_ife, o_ix, m_ix, o_cget, m_cget, o_sl, m_sl, o_orv, m_orv, o_dix, m_dix, o_dic, m_dic, o_tup, m_tup, o_lst, m_lst, o_call, m_call, o_bf, m_bf, o_isi, m_isi, o_lc, m_lc, o_lcl, m_lcl, o_pop, m_pop, o_rfd, m_rfd, m_var, k_add, k_sub, k_mul, k_div, k_mod, k_lt, k_le, k_gt, k_ge, k_isn, k_nisn, k_isb, k_nisb, k_rev, k_eqi, k_nei, x1_0, x2_0, x2_1, x3_0, x3_1, x3_2, x4_0, x4_1, x4_2, x4_3, y2_0, y2_1, y3_0, y3_1, y3_2, n_abs, n_int, n_max, n_min, n_len, n_lent, n_tup, n_all, z0, z1, z2, z3, z4, v_app, opV_app, resV_app, ioV_app, set_app, g0, g1, g2, gS, st0, stS, sz0, sz1, sz2, sz3, sz4, sz5, sz6, sz7, sz8, sz9, sz10, sz11, sz12, sz13, sz14, sz15, sz16, sz17, sz18, sz19, sz20, io_is_whole, io_is_fraction, io_divisor_of, io_pen_machine, io_is_joint, io_is_above, io_are_joints, io_is_step, io_is_machine, io__law_cell_at, io__law_state, io__law_take, io__law_divisor, io__law_ratio, io__law_plus, io__law_minus, io__law_times, io__law_over, io__law_small, io__law_above, io__law_four_rods, io__law_same, io_law, con_MOST_STEPS, asgM, callM, callR, ioIx, argSls, argSl, ioSl, callE, putOuts, outsOf, goodArgs, ioAt, startS, Ob.val, List.set_cons_zero, List.set_cons_succ, List.length_cons, List.length_nil, Nat.reduceAdd, Nat.reduceSub, Nat.reduceLT, Nat.sub_self, List.replicate_zero, List.replicate_succ, List.cons_append, List.nil_append, List.append_nil, reduceIte, Option.map_some, Option.map_none, List.not_mem_nil, List.nodup_nil, if_true, if_false, Bool.false_eq_true, eq_self, or_self, or_false, false_or, Bool.not_true, Bool.not_false, List.map_cons, List.map_nil, decide_true, decide_false, k_mod hm, e]
/-- -1, 0, 1 -/
def sg (a : Rat) : Int := (if 0 < a.num then 1 else 0) - (if a.num < 0 then 1 else 0)
/-! ### roots -/
theorem root_loop (C : Cal) (n : Nat) (hn : n < 2 ^ 8000) : ∀ (m x : Nat), x ≤ m → 0 < x → n < (x + 1) * (x + 1) → x ≤ n → ∃ r : Nat, Rt n r ∧ evS C [] (.whl (.cmp .Lt (.var 2) (.var 1)) (.cons (.asg (.name 1) (.var 2)) (.cons (.asg (.name 2) (.bin .FloorDiv (.bin .Add (.var 1) (.bin .FloorDiv (.var 0) (.var 1))) (.int 2))) .nil)))
    [.sh (.int n), .sh (.int x), .sh (.int ((x + n / x) / 2 : Nat))] = .ok .nx [.sh (.int n), .sh (.int r), .sh (.int ((r + n / r) / 2 : Nat))] := by
  intro m
  induction m with
  | zero =>
    intro x h1 h2
    omega
  | succ m ih =>
    intro x h1 h2 h3 h4
    have nw := newton (n := n) h2
    by_cases c : (x + n / x) / 2 < x
    · have hy : 0 < (x + n / x) / 2 := by
        have z : 1 ≤ n / x := Nat.div_pos h4 h2
        omega
      obtain ⟨r, hr, e⟩ := ih ((x + n / x) / 2) (by omega) hy nw (by omega)
      refine ⟨r, hr, ?_⟩
      generalize hg : (x + n / x) / 2 = y at *
      have hp : decide ((y : Int) < (x : Int)) = true := decide_eq_true (by omega)
      have o1 : okDiv (y : Int) = true := okDiv_of (n := 8000) (by unfold Bi; omega) (by omega) (by decide)
      have o2 : okDiv (2 : Int) = true := by decide
      have e1 : (n : Int).fdiv (y : Int) = ((n / y : Nat) : Int) := by rw [Int.fdiv_eq_ediv_of_nonneg _ (by omega)] <;> rfl
      have e2 : ((y : Int) + ((n / y : Nat) : Int)).fdiv 2 = (((y + n / y) / 2 : Nat) : Int) := by rw [Int.fdiv_eq_ediv_of_nonneg _ (by omega)] <;> rfl
      rw [q_whl, whM_t (s1 := [.sh (.int n), .sh (.int x), .sh (.int y)]) (s2 := [.sh (.int n), .sh (.int y), .sh (.int ((y + n / y) / 2 : Nat))]), ← q_whl, e]
      · simp only [q_var, q_int, q_str, q_bl, q_non, q_glo, q_bin, q_neg, q_cmp, q_chain, q_and, q_or, q_not, q_ife, q_ix, q_cget, q_dix, q_orv, q_dicm, ky0, ky1, ne_app, q_dic, ne_ok, tr_non, tr_int, tr_lst, q_sl, q_rev, q_tup, q_lst, q_call, n_callN, n_evT, n_tmp, n_isTv, n_isT2, n_isTc, n_aV0, n_aVd, n_aVv, n_hT0, n_hTt, n_hTf, n_scB, n_scI, n_scN, n_scT, n_scL, n_scO, n_let0, n_letD, n_letV, n_letG, q_bf, q_isi, q_lcl, q_app, q_ext, q_pop, q_ins, q_an0, q_an1, q_or0, q_or1, q_ds0, q_ds1, q_os0, q_os1, q_as0, q_as1, q_seq, q_rng, q_zip, q_enu, q_rvd, q_asgN, q_asgT, q_par, q_par3, q_tr, q_trN, q_six, q_exp, q_ret, q_ite, q_rai, q_nil, q_cons, b_app, b_ok, b_bad, b_err, p_app, p_bad, l_some, o_var, f_app, t_app, d_sh, d_ow, r_d, r_v, bM_app, a_t, a_f, rs0, rs1, nx_app, o_int, m_int, o_str, m_str, o_bl, m_bl, o_non, m_non, o_glo, m_glo, o_bin, m_bin, o_neg, m_neg, o_cmp, m_cmp, o_chain, m_chain, o_and, m_and, o_or, m_or, o_not, m_not, o_ife, m_ife, o_ix, m_ix, o_cget, m_cget, o_sl, m_sl, o_orv, m_orv, o_dix, m_dix, o_dic, m_dic, o_tup, m_tup, o_lst, m_lst, o_call, m_call, o_bf, m_bf, o_isi, m_isi, o_lc, m_lc, o_lcl, m_lcl, o_pop, m_pop, o_rfd, m_rfd, m_var, k_add, k_sub, k_mul, k_div, k_mod, k_lt, k_le, k_gt, k_ge, k_isn, k_nisn, k_isb, k_nisb, k_rev, k_eqi, k_nei, x1_0, x2_0, x2_1, x3_0, x3_1, x3_2, x4_0, x4_1, x4_2, x4_3, y2_0, y2_1, y3_0, y3_1, y3_2, n_abs, n_int, n_max, n_min, n_len, n_lent, n_tup, n_all, z0, z1, z2, z3, z4, v_app, opV_app, resV_app, ioV_app, set_app, g0, g1, g2, gS, st0, stS, sz0, sz1, sz2, sz3, sz4, sz5, sz6, sz7, sz8, sz9, sz10, sz11, sz12, sz13, sz14, sz15, sz16, sz17, sz18, sz19, sz20, io_is_whole, io_is_fraction, io_divisor_of, io_pen_machine, io_is_joint, io_is_above, io_are_joints, io_is_step, io_is_machine, io__law_cell_at, io__law_state, io__law_take, io__law_divisor, io__law_ratio, io__law_plus, io__law_minus, io__law_times, io__law_over, io__law_small, io__law_above, io__law_four_rods, io__law_same, io_law, con_MOST_STEPS, asgM, callM, callR, ioIx, argSls, argSl, ioSl, callE, putOuts, outsOf, goodArgs, ioAt, startS, Ob.val, List.set_cons_zero, List.set_cons_succ, List.length_cons, List.length_nil, Nat.reduceAdd, Nat.reduceSub, Nat.reduceLT, Nat.sub_self, List.replicate_zero, List.replicate_succ, List.cons_append, List.nil_append, List.append_nil, reduceIte, Option.map_some, Option.map_none, List.not_mem_nil, List.nodup_nil, if_true, if_false, Bool.false_eq_true, eq_self, or_self, or_false, false_or, Bool.not_true, Bool.not_false, List.map_cons, List.map_nil, decide_true, decide_false, hp]
      · simp only [q_var, q_int, q_str, q_bl, q_non, q_glo, q_bin, q_neg, q_cmp, q_chain, q_and, q_or, q_not, q_ife, q_ix, q_cget, q_dix, q_orv, q_dicm, ky0, ky1, ne_app, q_dic, ne_ok, tr_non, tr_int, tr_lst, q_sl, q_rev, q_tup, q_lst, q_call, n_callN, n_evT, n_tmp, n_isTv, n_isT2, n_isTc, n_aV0, n_aVd, n_aVv, n_hT0, n_hTt, n_hTf, n_scB, n_scI, n_scN, n_scT, n_scL, n_scO, n_let0, n_letD, n_letV, n_letG, q_bf, q_isi, q_lcl, q_app, q_ext, q_pop, q_ins, q_an0, q_an1, q_or0, q_or1, q_ds0, q_ds1, q_os0, q_os1, q_as0, q_as1, q_seq, q_rng, q_zip, q_enu, q_rvd, q_asgN, q_asgT, q_par, q_par3, q_tr, q_trN, q_six, q_exp, q_ret, q_ite, q_rai, q_nil, q_cons, b_app, b_ok, b_bad, b_err, p_app, p_bad, l_some, o_var, f_app, t_app, d_sh, d_ow, r_d, r_v, bM_app, a_t, a_f, rs0, rs1, nx_app, o_int, m_int, o_str, m_str, o_bl, m_bl, o_non, m_non, o_glo, m_glo, o_bin, m_bin, o_neg, m_neg, o_cmp, m_cmp, o_chain, m_chain, o_and, m_and, o_or, m_or, o_not, m_not, o_ife, m_ife, o_ix, m_ix, o_cget, m_cget, o_sl, m_sl, o_orv, m_orv, o_dix, m_dix, o_dic, m_dic, o_tup, m_tup, o_lst, m_lst, o_call, m_call, o_bf, m_bf, o_isi, m_isi, o_lc, m_lc, o_lcl, m_lcl, o_pop, m_pop, o_rfd, m_rfd, m_var, k_add, k_sub, k_mul, k_div, k_mod, k_lt, k_le, k_gt, k_ge, k_isn, k_nisn, k_isb, k_nisb, k_rev, k_eqi, k_nei, x1_0, x2_0, x2_1, x3_0, x3_1, x3_2, x4_0, x4_1, x4_2, x4_3, y2_0, y2_1, y3_0, y3_1, y3_2, n_abs, n_int, n_max, n_min, n_len, n_lent, n_tup, n_all, z0, z1, z2, z3, z4, v_app, opV_app, resV_app, ioV_app, set_app, g0, g1, g2, gS, st0, stS, sz0, sz1, sz2, sz3, sz4, sz5, sz6, sz7, sz8, sz9, sz10, sz11, sz12, sz13, sz14, sz15, sz16, sz17, sz18, sz19, sz20, io_is_whole, io_is_fraction, io_divisor_of, io_pen_machine, io_is_joint, io_is_above, io_are_joints, io_is_step, io_is_machine, io__law_cell_at, io__law_state, io__law_take, io__law_divisor, io__law_ratio, io__law_plus, io__law_minus, io__law_times, io__law_over, io__law_small, io__law_above, io__law_four_rods, io__law_same, io_law, con_MOST_STEPS, asgM, callM, callR, ioIx, argSls, argSl, ioSl, callE, putOuts, outsOf, goodArgs, ioAt, startS, Ob.val, List.set_cons_zero, List.set_cons_succ, List.length_cons, List.length_nil, Nat.reduceAdd, Nat.reduceSub, Nat.reduceLT, Nat.sub_self, List.replicate_zero, List.replicate_succ, List.cons_append, List.nil_append, List.append_nil, reduceIte, Option.map_some, Option.map_none, List.not_mem_nil, List.nodup_nil, if_true, if_false, Bool.false_eq_true, eq_self, or_self, or_false, false_or, Bool.not_true, Bool.not_false, List.map_cons, List.map_nil, decide_true, decide_false, k_div o1, k_div o2, e1, e2]
    · refine ⟨x, ⟨?_, h3⟩, ?_⟩
      · have z : x ≤ n / x := by omega
        have := Nat.mul_le_of_le_div x x n z
        exact this
      · have hp : decide ((((x + n / x) / 2 : Nat) : Int) < (x : Int)) = false := decide_eq_false (by omega)
        rw [q_whl, whM_f (s1 := [.sh (.int n), .sh (.int x), .sh (.int ((x + n / x) / 2 : Nat))])]
        simp only [q_var, q_int, q_str, q_bl, q_non, q_glo, q_bin, q_neg, q_cmp, q_chain, q_and, q_or, q_not, q_ife, q_ix, q_cget, q_dix, q_orv, q_dicm, ky0, ky1, ne_app, q_dic, ne_ok, tr_non, tr_int, tr_lst, q_sl, q_rev, q_tup, q_lst, q_call, n_callN, n_evT, n_tmp, n_isTv, n_isT2, n_isTc, n_aV0, n_aVd, n_aVv, n_hT0, n_hTt, n_hTf, n_scB, n_scI, n_scN, n_scT, n_scL, n_scO, n_let0, n_letD, n_letV, n_letG, q_bf, q_isi, q_lcl, q_app, q_ext, q_pop, q_ins, q_an0, q_an1, q_or0, q_or1, q_ds0, q_ds1, q_os0, q_os1, q_as0, q_as1, q_seq, q_rng, q_zip, q_enu, q_rvd, q_asgN, q_asgT, q_par, q_par3, q_tr, q_trN, q_six, q_exp, q_ret, q_ite, q_rai, q_nil, q_cons, b_app, b_ok, b_bad, b_err, p_app, p_bad, l_some, o_var, f_app, t_app, d_sh, d_ow, r_d, r_v, bM_app, a_t, a_f, rs0, rs1, nx_app, o_int, m_int, o_str, m_str, o_bl, m_bl, o_non, m_non, o_glo, m_glo, o_bin, m_bin, o_neg, m_neg, o_cmp, m_cmp, o_chain, m_chain, o_and, m_and, o_or, m_or, o_not, m_not, o_ife, m_ife, o_ix, m_ix, o_cget, m_cget, o_sl, m_sl, o_orv, m_orv, o_dix, m_dix, o_dic, m_dic, o_tup, m_tup, o_lst, m_lst, o_call, m_call, o_bf, m_bf, o_isi, m_isi, o_lc, m_lc, o_lcl, m_lcl, o_pop, m_pop, o_rfd, m_rfd, m_var, k_add, k_sub, k_mul, k_div, k_mod, k_lt, k_le, k_gt, k_ge, k_isn, k_nisn, k_isb, k_nisb, k_rev, k_eqi, k_nei, x1_0, x2_0, x2_1, x3_0, x3_1, x3_2, x4_0, x4_1, x4_2, x4_3, y2_0, y2_1, y3_0, y3_1, y3_2, n_abs, n_int, n_max, n_min, n_len, n_lent, n_tup, n_all, z0, z1, z2, z3, z4, v_app, opV_app, resV_app, ioV_app, set_app, g0, g1, g2, gS, st0, stS, sz0, sz1, sz2, sz3, sz4, sz5, sz6, sz7, sz8, sz9, sz10, sz11, sz12, sz13, sz14, sz15, sz16, sz17, sz18, sz19, sz20, io_is_whole, io_is_fraction, io_divisor_of, io_pen_machine, io_is_joint, io_is_above, io_are_joints, io_is_step, io_is_machine, io__law_cell_at, io__law_state, io__law_take, io__law_divisor, io__law_ratio, io__law_plus, io__law_minus, io__law_times, io__law_over, io__law_small, io__law_above, io__law_four_rods, io__law_same, io_law, con_MOST_STEPS, asgM, callM, callR, ioIx, argSls, argSl, ioSl, callE, putOuts, outsOf, goodArgs, ioAt, startS, Ob.val, List.set_cons_zero, List.set_cons_succ, List.length_cons, List.length_nil, Nat.reduceAdd, Nat.reduceSub, Nat.reduceLT, Nat.sub_self, List.replicate_zero, List.replicate_succ, List.cons_append, List.nil_append, List.append_nil, reduceIte, Option.map_some, Option.map_none, List.not_mem_nil, List.nodup_nil, if_true, if_false, Bool.false_eq_true, eq_self, or_self, or_false, false_or, Bool.not_true, Bool.not_false, List.map_cons, List.map_nil, decide_true, decide_false, hp]
end Lw
set_option Elab.async false
set_option linter.all false
set_option maxRecDepth 100000
set_option maxHeartbeats 400000
/-! Numbers a + b * root d: what the text's defs give. -/
namespace Lw
open PySem Hg
theorem nat_sq {r : Int} (h : 0 ≤ r) : r * r = ((r.toNat * r.toNat : Nat) : Int) := by
  obtain ⟨n, rfl⟩ := Int.eq_ofNat_of_zero_le h
  simp
theorem Bi.nat {n : Nat} {i : Int} (h : Bi n i) (h0 : 0 ≤ i) : i.toNat < 2 ^ n := by
  unfold Bi at h
  omega
/-- a + b * root d -/
def rn (d : Rat) (p : Rat × Rat) : D := .tuple [fr p.1, fr (p.2 * ab p.2 * d)]
/-- small parts -/
def Bp (n : Nat) (p : Rat × Rat) : Prop := Bt n p.1 ∧ Bt n p.2
structure Un (d : Rat) : Prop where
  pos : 0 < d
  bt : Bt 10 d
theorem ab_nn (a : Rat) : 0 ≤ ab a := by
  unfold ab
  simp only [num_neg_iff]
  grind
theorem ab_zero {a : Rat} (h : ab a = 0) : a = 0 := by
  unfold ab at h
  split at h <;> grind
theorem und_zero {d b : Rat} (u : 0 < d) : b * ab b * d = 0 ↔ b = 0 := by
  constructor
  · intro h
    rcases Rat.mul_eq_zero.mp h with h | h
    · rcases Rat.mul_eq_zero.mp h with h | h
      · exact h
      · exact ab_zero h
    · grind
  · intro h
    subst h
    grind
theorem Un.b {d : Rat} (u : Un d) {n : Nat} {b : Rat} (h : Bt n b) : Bt (n + n + 10) (b * ab b * d) := (h.mul h.ab).mul u.bt
theorem sg_pos {x : Rat} (h : 0 < x) : sg x = 1 := by
  have h1 : ¬ x.num < 0 := fun z => absurd (num_neg_iff.mp z) (by grind)
  have h2 : 0 < x.num := by
    rcases Int.lt_trichotomy x.num 0 with z | z | z
    · exact absurd z h1
    · exact absurd (Rat.num_eq_zero.mp z) (by grind)
    · exact z
  unfold sg
  rw [if_pos h2, if_neg h1]
  rfl
theorem sg_neg {x : Rat} (h : x < 0) : sg x = -1 := by
  have h1 : x.num < 0 := num_neg_iff.mpr h
  unfold sg
  rw [if_pos h1, if_neg (by omega)]
  rfl
theorem ab_pos {a : Rat} (h : 0 < a) : ab a = a := by
  unfold ab
  simp only [num_neg_iff]
  grind
theorem ab_neg {a : Rat} (h : a < 0) : ab a = -a := by
  unfold ab
  simp only [num_neg_iff]
  grind
theorem un_pos {d a : Rat} (u : 0 < d) (h : 0 < a) : 0 < a * ab a * d := by
  rw [ab_pos h]
  exact Rat.mul_pos (Rat.mul_pos h h) u
theorem un_neg {d a : Rat} (u : 0 < d) (h : a < 0) : a * ab a * d < 0 := by
  rw [ab_neg h]
  have z := Rat.mul_pos (Rat.mul_pos (show 0 < -a by grind) (show 0 < -a by grind)) u
  grind
theorem ne_cases {a : Rat} (h : a ≠ 0) : 0 < a ∨ a < 0 := by grind
theorem sg_un {d a b : Rat} (u : 0 < d) (ha : a ≠ 0) (hb : b ≠ 0) : (sg (a * ab a * d) * sg (b * ab b * d) = 1 ∧ ab (b / a) = b / a) ∨ (sg (a * ab a * d) * sg (b * ab b * d) = -1 ∧ ab (b / a) = -(b / a)) := by
  have h := ab_mul (b / a) a
  have e : b / a * a = b := by grind
  rw [e] at h
  rcases ne_cases ha with ha' | ha' <;> rcases ne_cases hb with hb' | hb'
  · rw [sg_pos (un_pos u ha'), sg_pos (un_pos u hb')]
    rw [ab_pos ha', ab_pos hb'] at h
    exact .inl ⟨rfl, by grind⟩
  · rw [sg_pos (un_pos u ha'), sg_neg (un_neg u hb')]
    rw [ab_pos ha', ab_neg hb'] at h
    exact .inr ⟨rfl, by grind⟩
  · rw [sg_neg (un_neg u ha'), sg_pos (un_pos u hb')]
    rw [ab_neg ha', ab_pos hb'] at h
    exact .inr ⟨rfl, by grind⟩
  · rw [sg_neg (un_neg u ha'), sg_neg (un_neg u hb')]
    rw [ab_neg ha', ab_neg hb'] at h
    exact .inl ⟨rfl, by grind⟩
theorem ab_un {d b : Rat} (u : 0 < d) : ab (b * ab b * d) = ab b * ab b * d := by
  rw [ab_mul, ab_mul, ab_pos u]
  congr 2
  have := ab_nn b
  by_cases h : ab b = 0
  · rw [h] <;> rfl
  · exact ab_pos (by grind)
theorem over_un {d a b : Rat} (u : 0 < d) (ha : a ≠ 0) : ab (b * ab b * d) / ab (a * ab a * d) = ab (b / a) * ab (b / a) := by
  rw [ab_un u, ab_un u, ab_sq, ab_sq, ab_sq]
  grind
end Lw
set_option Elab.async false
set_option linter.all false
set_option maxRecDepth 100000
set_option maxHeartbeats 400000
/-! Numbers a + b * root d: sums, products. -/
namespace Lw
open PySem Hg
def pa (p q : Rat × Rat) : Rat × Rat := (p.1 + q.1, p.2 + q.2)
def pn (p : Rat × Rat) : Rat × Rat := (-p.1, -p.2)
def ps (p q : Rat × Rat) : Rat × Rat := (p.1 - q.1, p.2 - q.2)
def pt (d : Rat) (p q : Rat × Rat) : Rat × Rat := (p.1 * q.1 + p.2 * q.2 * d, p.1 * q.2 + p.2 * q.1)
theorem und_mul {d a b : Rat} : a * ab a * (b * ab b * d) = (a * b) * ab (a * b) * d := by
  rw [ab_mul]
  grind
end Lw
set_option Elab.async false
set_option linter.all false
set_option maxRecDepth 100000
set_option maxHeartbeats 400000
/-! Numbers, points as data. -/
namespace Lw
open PySem Hg
abbrev Nu : Type := Rat × Rat
abbrev Po : Type := Nu × Nu
def pd (d : Rat) (p : Po) : D := .tuple [rn d p.1, rn d p.2]
def Bo (n : Nat) (p : Po) : Prop := Bp n p.1 ∧ Bp n p.2
end Lw
set_option Elab.async false
set_option linter.all false
set_option maxRecDepth 100000
set_option maxHeartbeats 400000
/-! Points: ways, likes. -/
namespace Lw
open PySem Hg
def wy (p q : Po) : Po := (ps q.1 p.1, ps q.2 p.2)
def sq (d : Rat) (w : Po) : Nu := pa (pt d w.1 w.1) (pt d w.2 w.2)
def tu (d : Rat) (w : Po) (a l : Rat) : Po := (ps (pt d (a, 0) w.1) (pt d (l, 0) w.2), pa (pt d (l, 0) w.1) (pt d (a, 0) w.2))
def go (p w : Po) : Po := (pa p.1 w.1, pa p.2 w.2)
theorem Bp.mono {n m : Nat} {p : Nu} (h : Bp n p) (l : n ≤ m) : Bp m p := ⟨h.1.mono l, h.2.mono l⟩
theorem Bo.mono {n m : Nat} {p : Po} (h : Bo n p) (l : n ≤ m) : Bo m p := ⟨h.1.mono l, h.2.mono l⟩
theorem Bp.pa {n m : Nat} {p q : Nu} (h : Bp n p) (h2 : Bp m q) : Bp (n + m + 1) (Lw.pa p q) := ⟨h.1.add h2.1, h.2.add h2.2⟩
theorem Bp.ps {n m : Nat} {p q : Nu} (h : Bp n p) (h2 : Bp m q) : Bp (n + m + 1) (Lw.ps p q) := ⟨h.1.sub h2.1, h.2.sub h2.2⟩
theorem Bp.pt {n m : Nat} {d : Rat} (u : Un d) {p q : Nu} (h : Bp n p) (h2 : Bp m q) : Bp (2 * n + 2 * m + (10 + 1)) (Lw.pt d p q) :=
  ⟨((h.1.mul h2.1).add ((h.2.mul h2.2).mul u.bt)).mono (by omega), ((h.1.mul h2.2).add (h.2.mul h2.1)).mono (by omega)⟩
theorem Bt.zero {n : Nat} (h : n ≠ 0) : Bt n (0 : Rat) := Bt.nat (i := 0) h (Nat.two_pow_pos n)
theorem rn_plain (d a : Rat) : rn d (a, 0) = .tuple [fr a, fr 0] := by
  unfold rn
  have e : (0 : Rat) * ab 0 * d = 0 := by grind
  rw [e]
def li (d : Rat) (p q : Po) (a l : Rat) : Po := go p (tu d (wy p q) a l)
end Lw
set_option Elab.async false
set_option linter.all false
set_option maxRecDepth 100000
set_option maxHeartbeats 400000
/-! What the law reckons itself. -/
namespace Lw
open PySem Hg
theorem r_ldivisor {k : Nat} (h : 1 ≤ k) (a b : Int) : (calAt g.pr k).run i__law_divisor [.sh (.int a), .sh (.int b)] = .ok (.sh (.int (a.natAbs.gcd b.natAbs : Nat))) [] := by
  obtain ⟨k, rfl⟩ := Nat.exists_eq_add_of_le' (show 1 ≤ k by omega)
  rw [rr k (t := ⟨f__law_divisor, _, _, _⟩) rfl]
  have ea : ∀ i : Int, (if i < 0 then -i else i) = ((i.natAbs : Nat) : Int) := fun i => by split <;> omega
  simp only [runFd, f__law_divisor, q_var, q_int, q_str, q_bl, q_non, q_glo, q_bin, q_neg, q_cmp, q_chain, q_and, q_or, q_not, q_ife, q_ix, q_cget, q_dix, q_orv, q_dicm, ky0, ky1, ne_app, q_dic, ne_ok, tr_non, tr_int, tr_lst, q_sl, q_rev, q_tup, q_lst, q_call, n_callN, n_evT, n_tmp, n_isTv, n_isT2, n_isTc, n_aV0, n_aVd, n_aVv, n_hT0, n_hTt, n_hTf, n_scB, n_scI, n_scN, n_scT, n_scL, n_scO, n_let0, n_letD, n_letV, n_letG, q_bf, q_isi, q_lcl, q_app, q_ext, q_pop, q_ins, q_an0, q_an1, q_or0, q_or1, q_ds0, q_ds1, q_os0, q_os1, q_as0, q_as1, q_seq, q_rng, q_zip, q_enu, q_rvd, q_asgN, q_asgT, q_par, q_par3, q_tr, q_trN, q_six, q_exp, q_ret, q_ite, q_rai, q_nil, q_cons, b_app, b_ok, b_bad, b_err, p_app, p_bad, l_some, o_var, f_app, t_app, d_sh, d_ow, r_d, r_v, bM_app, a_t, a_f, rs0, rs1, nx_app, o_int, m_int, o_str, m_str, o_bl, m_bl, o_non, m_non, o_glo, m_glo, o_bin, m_bin, o_neg, m_neg, o_cmp, m_cmp, o_chain, m_chain, o_and, m_and, o_or, m_or, o_not, m_not, o_ife, m_ife, o_ix, m_ix, o_cget, m_cget, o_sl, m_sl, o_orv, m_orv, o_dix, m_dix, o_dic, m_dic, o_tup, m_tup, o_lst, m_lst, o_call, m_call, o_bf, m_bf, o_isi, m_isi, o_lc, m_lc, o_lcl, m_lcl, o_pop, m_pop, o_rfd, m_rfd, m_var, k_add, k_sub, k_mul, k_div, k_mod, k_lt, k_le, k_gt, k_ge, k_isn, k_nisn, k_isb, k_nisb, k_rev, k_eqi, k_nei, x1_0, x2_0, x2_1, x3_0, x3_1, x3_2, x4_0, x4_1, x4_2, x4_3, y2_0, y2_1, y3_0, y3_1, y3_2, n_abs, n_int, n_max, n_min, n_len, n_lent, n_tup, n_all, z0, z1, z2, z3, z4, v_app, opV_app, resV_app, ioV_app, set_app, g0, g1, g2, gS, st0, stS, sz0, sz1, sz2, sz3, sz4, sz5, sz6, sz7, sz8, sz9, sz10, sz11, sz12, sz13, sz14, sz15, sz16, sz17, sz18, sz19, sz20, io_is_whole, io_is_fraction, io_divisor_of, io_pen_machine, io_is_joint, io_is_above, io_are_joints, io_is_step, io_is_machine, io__law_cell_at, io__law_state, io__law_take, io__law_divisor, io__law_ratio, io__law_plus, io__law_minus, io__law_times, io__law_over, io__law_small, io__law_above, io__law_four_rods, io__law_same, io_law, con_MOST_STEPS, asgM, callM, callR, ioIx, argSls, argSl, ioSl, callE, putOuts, outsOf, goodArgs, ioAt, startS, Ob.val, List.set_cons_zero, List.set_cons_succ, List.length_cons, List.length_nil, Nat.reduceAdd, Nat.reduceSub, Nat.reduceLT, Nat.sub_self, List.replicate_zero, List.replicate_succ, List.cons_append, List.nil_append, List.append_nil, reduceIte, Option.map_some, Option.map_none, List.not_mem_nil, List.nodup_nil, if_true, if_false, Bool.false_eq_true, eq_self, or_self, or_false, false_or, Bool.not_true, Bool.not_false, List.map_cons, List.map_nil, decide_true, decide_false, ea, gcd_loop _ b.natAbs a.natAbs b.natAbs (Nat.le_refl _)]
theorem r_lratio {k : Nat} (h : 2 ≤ k) {a b : Int} (hb : b ≠ 0) (nb : Bi 8000 b) : (calAt g.pr k).run i__law_ratio [.sh (.int a), .sh (.int b)] = .ok (.sh (fr (Rat.divInt a b))) [] := by
  obtain ⟨k, rfl⟩ := Nat.exists_eq_add_of_le' (show 1 ≤ k by omega)
  rw [rr k (t := ⟨f__law_ratio, _, _, _⟩) rfl]
  obtain ⟨e1, e2⟩ := div_num (a := a) hb
  have rd := r_ldivisor (k := k) (by omega) a b
  have ok := okDiv_of (byOf_bi (a := a) hb nb) (byOf_ne hb) (by decide)
  unfold fr
  rw [← e1, ← e2]
  unfold byOf at ok ⊢
  by_cases n : b < 0
  · have np : decide (b < 0) = true := decide_eq_true n
    rw [if_pos n] at ok ⊢
    simp only [runFd, f__law_ratio, q_var, q_int, q_str, q_bl, q_non, q_glo, q_bin, q_neg, q_cmp, q_chain, q_and, q_or, q_not, q_ife, q_ix, q_cget, q_dix, q_orv, q_dicm, ky0, ky1, ne_app, q_dic, ne_ok, tr_non, tr_int, tr_lst, q_sl, q_rev, q_tup, q_lst, q_call, n_callN, n_evT, n_tmp, n_isTv, n_isT2, n_isTc, n_aV0, n_aVd, n_aVv, n_hT0, n_hTt, n_hTf, n_scB, n_scI, n_scN, n_scT, n_scL, n_scO, n_let0, n_letD, n_letV, n_letG, q_bf, q_isi, q_lcl, q_app, q_ext, q_pop, q_ins, q_an0, q_an1, q_or0, q_or1, q_ds0, q_ds1, q_os0, q_os1, q_as0, q_as1, q_seq, q_rng, q_zip, q_enu, q_rvd, q_asgN, q_asgT, q_par, q_par3, q_tr, q_trN, q_six, q_exp, q_ret, q_ite, q_rai, q_nil, q_cons, b_app, b_ok, b_bad, b_err, p_app, p_bad, l_some, o_var, f_app, t_app, d_sh, d_ow, r_d, r_v, bM_app, a_t, a_f, rs0, rs1, nx_app, o_int, m_int, o_str, m_str, o_bl, m_bl, o_non, m_non, o_glo, m_glo, o_bin, m_bin, o_neg, m_neg, o_cmp, m_cmp, o_chain, m_chain, o_and, m_and, o_or, m_or, o_not, m_not, o_ife, m_ife, o_ix, m_ix, o_cget, m_cget, o_sl, m_sl, o_orv, m_orv, o_dix, m_dix, o_dic, m_dic, o_tup, m_tup, o_lst, m_lst, o_call, m_call, o_bf, m_bf, o_isi, m_isi, o_lc, m_lc, o_lcl, m_lcl, o_pop, m_pop, o_rfd, m_rfd, m_var, k_add, k_sub, k_mul, k_div, k_mod, k_lt, k_le, k_gt, k_ge, k_isn, k_nisn, k_isb, k_nisb, k_rev, k_eqi, k_nei, x1_0, x2_0, x2_1, x3_0, x3_1, x3_2, x4_0, x4_1, x4_2, x4_3, y2_0, y2_1, y3_0, y3_1, y3_2, n_abs, n_int, n_max, n_min, n_len, n_lent, n_tup, n_all, z0, z1, z2, z3, z4, v_app, opV_app, resV_app, ioV_app, set_app, g0, g1, g2, gS, st0, stS, sz0, sz1, sz2, sz3, sz4, sz5, sz6, sz7, sz8, sz9, sz10, sz11, sz12, sz13, sz14, sz15, sz16, sz17, sz18, sz19, sz20, io_is_whole, io_is_fraction, io_divisor_of, io_pen_machine, io_is_joint, io_is_above, io_are_joints, io_is_step, io_is_machine, io__law_cell_at, io__law_state, io__law_take, io__law_divisor, io__law_ratio, io__law_plus, io__law_minus, io__law_times, io__law_over, io__law_small, io__law_above, io__law_four_rods, io__law_same, io_law, con_MOST_STEPS, asgM, callM, callR, ioIx, argSls, argSl, ioSl, callE, putOuts, outsOf, goodArgs, ioAt, startS, Ob.val, List.set_cons_zero, List.set_cons_succ, List.length_cons, List.length_nil, Nat.reduceAdd, Nat.reduceSub, Nat.reduceLT, Nat.sub_self, List.replicate_zero, List.replicate_succ, List.cons_append, List.nil_append, List.append_nil, reduceIte, Option.map_some, Option.map_none, List.not_mem_nil, List.nodup_nil, if_true, if_false, Bool.false_eq_true, eq_self, or_self, or_false, false_or, Bool.not_true, Bool.not_false, List.map_cons, List.map_nil, decide_true, decide_false, rd, np, k_div ok]
  · have np : decide (b < 0) = false := decide_eq_false n
    rw [if_neg n] at ok ⊢
    simp only [runFd, f__law_ratio, q_var, q_int, q_str, q_bl, q_non, q_glo, q_bin, q_neg, q_cmp, q_chain, q_and, q_or, q_not, q_ife, q_ix, q_cget, q_dix, q_orv, q_dicm, ky0, ky1, ne_app, q_dic, ne_ok, tr_non, tr_int, tr_lst, q_sl, q_rev, q_tup, q_lst, q_call, n_callN, n_evT, n_tmp, n_isTv, n_isT2, n_isTc, n_aV0, n_aVd, n_aVv, n_hT0, n_hTt, n_hTf, n_scB, n_scI, n_scN, n_scT, n_scL, n_scO, n_let0, n_letD, n_letV, n_letG, q_bf, q_isi, q_lcl, q_app, q_ext, q_pop, q_ins, q_an0, q_an1, q_or0, q_or1, q_ds0, q_ds1, q_os0, q_os1, q_as0, q_as1, q_seq, q_rng, q_zip, q_enu, q_rvd, q_asgN, q_asgT, q_par, q_par3, q_tr, q_trN, q_six, q_exp, q_ret, q_ite, q_rai, q_nil, q_cons, b_app, b_ok, b_bad, b_err, p_app, p_bad, l_some, o_var, f_app, t_app, d_sh, d_ow, r_d, r_v, bM_app, a_t, a_f, rs0, rs1, nx_app, o_int, m_int, o_str, m_str, o_bl, m_bl, o_non, m_non, o_glo, m_glo, o_bin, m_bin, o_neg, m_neg, o_cmp, m_cmp, o_chain, m_chain, o_and, m_and, o_or, m_or, o_not, m_not, o_ife, m_ife, o_ix, m_ix, o_cget, m_cget, o_sl, m_sl, o_orv, m_orv, o_dix, m_dix, o_dic, m_dic, o_tup, m_tup, o_lst, m_lst, o_call, m_call, o_bf, m_bf, o_isi, m_isi, o_lc, m_lc, o_lcl, m_lcl, o_pop, m_pop, o_rfd, m_rfd, m_var, k_add, k_sub, k_mul, k_div, k_mod, k_lt, k_le, k_gt, k_ge, k_isn, k_nisn, k_isb, k_nisb, k_rev, k_eqi, k_nei, x1_0, x2_0, x2_1, x3_0, x3_1, x3_2, x4_0, x4_1, x4_2, x4_3, y2_0, y2_1, y3_0, y3_1, y3_2, n_abs, n_int, n_max, n_min, n_len, n_lent, n_tup, n_all, z0, z1, z2, z3, z4, v_app, opV_app, resV_app, ioV_app, set_app, g0, g1, g2, gS, st0, stS, sz0, sz1, sz2, sz3, sz4, sz5, sz6, sz7, sz8, sz9, sz10, sz11, sz12, sz13, sz14, sz15, sz16, sz17, sz18, sz19, sz20, io_is_whole, io_is_fraction, io_divisor_of, io_pen_machine, io_is_joint, io_is_above, io_are_joints, io_is_step, io_is_machine, io__law_cell_at, io__law_state, io__law_take, io__law_divisor, io__law_ratio, io__law_plus, io__law_minus, io__law_times, io__law_over, io__law_small, io__law_above, io__law_four_rods, io__law_same, io_law, con_MOST_STEPS, asgM, callM, callR, ioIx, argSls, argSl, ioSl, callE, putOuts, outsOf, goodArgs, ioAt, startS, Ob.val, List.set_cons_zero, List.set_cons_succ, List.length_cons, List.length_nil, Nat.reduceAdd, Nat.reduceSub, Nat.reduceLT, Nat.sub_self, List.replicate_zero, List.replicate_succ, List.cons_append, List.nil_append, List.append_nil, reduceIte, Option.map_some, Option.map_none, List.not_mem_nil, List.nodup_nil, if_true, if_false, Bool.false_eq_true, eq_self, or_self, or_false, false_or, Bool.not_true, Bool.not_false, List.map_cons, List.map_nil, decide_true, decide_false, rd, np, k_div ok]
theorem r_lplus {k : Nat} (h : 3 ≤ k) {a b : Rat} (ha : Bt 3900 a) (hb : Bt 3900 b) : (calAt g.pr k).run i__law_plus [.sh (fr a), .sh (fr b)] = .ok (.sh (fr (a + b))) [] := by
  obtain ⟨k, rfl⟩ := Nat.exists_eq_add_of_le' (show 1 ≤ k by omega)
  rw [rr k (t := ⟨f__law_plus, _, _, _⟩) rfl]
  rw [rat_add]
  have m1 := okMul_of ha.1 hb.2 (by decide)
  have m2 := okMul_of hb.1 ha.2 (by decide)
  have m3 := okMul_of ha.2 hb.2 (by decide)
  have rd := r_lratio (k := k) (by omega) (a := a.num * b.den + b.num * a.den) (Int.mul_ne_zero (den_ne a) (den_ne b)) ((ha.2.mul hb.2).mono (by decide))
  simp only [runFd, f__law_plus, fr, q_var, q_int, q_str, q_bl, q_non, q_glo, q_bin, q_neg, q_cmp, q_chain, q_and, q_or, q_not, q_ife, q_ix, q_cget, q_dix, q_orv, q_dicm, ky0, ky1, ne_app, q_dic, ne_ok, tr_non, tr_int, tr_lst, q_sl, q_rev, q_tup, q_lst, q_call, n_callN, n_evT, n_tmp, n_isTv, n_isT2, n_isTc, n_aV0, n_aVd, n_aVv, n_hT0, n_hTt, n_hTf, n_scB, n_scI, n_scN, n_scT, n_scL, n_scO, n_let0, n_letD, n_letV, n_letG, q_bf, q_isi, q_lcl, q_app, q_ext, q_pop, q_ins, q_an0, q_an1, q_or0, q_or1, q_ds0, q_ds1, q_os0, q_os1, q_as0, q_as1, q_seq, q_rng, q_zip, q_enu, q_rvd, q_asgN, q_asgT, q_par, q_par3, q_tr, q_trN, q_six, q_exp, q_ret, q_ite, q_rai, q_nil, q_cons, b_app, b_ok, b_bad, b_err, p_app, p_bad, l_some, o_var, f_app, t_app, d_sh, d_ow, r_d, r_v, bM_app, a_t, a_f, rs0, rs1, nx_app, o_int, m_int, o_str, m_str, o_bl, m_bl, o_non, m_non, o_glo, m_glo, o_bin, m_bin, o_neg, m_neg, o_cmp, m_cmp, o_chain, m_chain, o_and, m_and, o_or, m_or, o_not, m_not, o_ife, m_ife, o_ix, m_ix, o_cget, m_cget, o_sl, m_sl, o_orv, m_orv, o_dix, m_dix, o_dic, m_dic, o_tup, m_tup, o_lst, m_lst, o_call, m_call, o_bf, m_bf, o_isi, m_isi, o_lc, m_lc, o_lcl, m_lcl, o_pop, m_pop, o_rfd, m_rfd, m_var, k_add, k_sub, k_mul, k_div, k_mod, k_lt, k_le, k_gt, k_ge, k_isn, k_nisn, k_isb, k_nisb, k_rev, k_eqi, k_nei, x1_0, x2_0, x2_1, x3_0, x3_1, x3_2, x4_0, x4_1, x4_2, x4_3, y2_0, y2_1, y3_0, y3_1, y3_2, n_abs, n_int, n_max, n_min, n_len, n_lent, n_tup, n_all, z0, z1, z2, z3, z4, v_app, opV_app, resV_app, ioV_app, set_app, g0, g1, g2, gS, st0, stS, sz0, sz1, sz2, sz3, sz4, sz5, sz6, sz7, sz8, sz9, sz10, sz11, sz12, sz13, sz14, sz15, sz16, sz17, sz18, sz19, sz20, io_is_whole, io_is_fraction, io_divisor_of, io_pen_machine, io_is_joint, io_is_above, io_are_joints, io_is_step, io_is_machine, io__law_cell_at, io__law_state, io__law_take, io__law_divisor, io__law_ratio, io__law_plus, io__law_minus, io__law_times, io__law_over, io__law_small, io__law_above, io__law_four_rods, io__law_same, io_law, con_MOST_STEPS, asgM, callM, callR, ioIx, argSls, argSl, ioSl, callE, putOuts, outsOf, goodArgs, ioAt, startS, Ob.val, List.set_cons_zero, List.set_cons_succ, List.length_cons, List.length_nil, Nat.reduceAdd, Nat.reduceSub, Nat.reduceLT, Nat.sub_self, List.replicate_zero, List.replicate_succ, List.cons_append, List.nil_append, List.append_nil, reduceIte, Option.map_some, Option.map_none, List.not_mem_nil, List.nodup_nil, if_true, if_false, Bool.false_eq_true, eq_self, or_self, or_false, false_or, Bool.not_true, Bool.not_false, List.map_cons, List.map_nil, decide_true, decide_false, k_mul m1, k_mul m2, k_mul m3, rd]
theorem r_lminus {k : Nat} (h : 3 ≤ k) {a b : Rat} (ha : Bt 3900 a) (hb : Bt 3900 b) : (calAt g.pr k).run i__law_minus [.sh (fr a), .sh (fr b)] = .ok (.sh (fr (a - b))) [] := by
  obtain ⟨k, rfl⟩ := Nat.exists_eq_add_of_le' (show 1 ≤ k by omega)
  rw [rr k (t := ⟨f__law_minus, _, _, _⟩) rfl]
  rw [rat_sub]
  have m1 := okMul_of ha.1 hb.2 (by decide)
  have m2 := okMul_of hb.1 ha.2 (by decide)
  have m3 := okMul_of ha.2 hb.2 (by decide)
  have rd := r_lratio (k := k) (by omega) (a := a.num * b.den - b.num * a.den) (Int.mul_ne_zero (den_ne a) (den_ne b)) ((ha.2.mul hb.2).mono (by decide))
  simp only [runFd, f__law_minus, fr, q_var, q_int, q_str, q_bl, q_non, q_glo, q_bin, q_neg, q_cmp, q_chain, q_and, q_or, q_not, q_ife, q_ix, q_cget, q_dix, q_orv, q_dicm, ky0, ky1, ne_app, q_dic, ne_ok, tr_non, tr_int, tr_lst, q_sl, q_rev, q_tup, q_lst, q_call, n_callN, n_evT, n_tmp, n_isTv, n_isT2, n_isTc, n_aV0, n_aVd, n_aVv, n_hT0, n_hTt, n_hTf, n_scB, n_scI, n_scN, n_scT, n_scL, n_scO, n_let0, n_letD, n_letV, n_letG, q_bf, q_isi, q_lcl, q_app, q_ext, q_pop, q_ins, q_an0, q_an1, q_or0, q_or1, q_ds0, q_ds1, q_os0, q_os1, q_as0, q_as1, q_seq, q_rng, q_zip, q_enu, q_rvd, q_asgN, q_asgT, q_par, q_par3, q_tr, q_trN, q_six, q_exp, q_ret, q_ite, q_rai, q_nil, q_cons, b_app, b_ok, b_bad, b_err, p_app, p_bad, l_some, o_var, f_app, t_app, d_sh, d_ow, r_d, r_v, bM_app, a_t, a_f, rs0, rs1, nx_app, o_int, m_int, o_str, m_str, o_bl, m_bl, o_non, m_non, o_glo, m_glo, o_bin, m_bin, o_neg, m_neg, o_cmp, m_cmp, o_chain, m_chain, o_and, m_and, o_or, m_or, o_not, m_not, o_ife, m_ife, o_ix, m_ix, o_cget, m_cget, o_sl, m_sl, o_orv, m_orv, o_dix, m_dix, o_dic, m_dic, o_tup, m_tup, o_lst, m_lst, o_call, m_call, o_bf, m_bf, o_isi, m_isi, o_lc, m_lc, o_lcl, m_lcl, o_pop, m_pop, o_rfd, m_rfd, m_var, k_add, k_sub, k_mul, k_div, k_mod, k_lt, k_le, k_gt, k_ge, k_isn, k_nisn, k_isb, k_nisb, k_rev, k_eqi, k_nei, x1_0, x2_0, x2_1, x3_0, x3_1, x3_2, x4_0, x4_1, x4_2, x4_3, y2_0, y2_1, y3_0, y3_1, y3_2, n_abs, n_int, n_max, n_min, n_len, n_lent, n_tup, n_all, z0, z1, z2, z3, z4, v_app, opV_app, resV_app, ioV_app, set_app, g0, g1, g2, gS, st0, stS, sz0, sz1, sz2, sz3, sz4, sz5, sz6, sz7, sz8, sz9, sz10, sz11, sz12, sz13, sz14, sz15, sz16, sz17, sz18, sz19, sz20, io_is_whole, io_is_fraction, io_divisor_of, io_pen_machine, io_is_joint, io_is_above, io_are_joints, io_is_step, io_is_machine, io__law_cell_at, io__law_state, io__law_take, io__law_divisor, io__law_ratio, io__law_plus, io__law_minus, io__law_times, io__law_over, io__law_small, io__law_above, io__law_four_rods, io__law_same, io_law, con_MOST_STEPS, asgM, callM, callR, ioIx, argSls, argSl, ioSl, callE, putOuts, outsOf, goodArgs, ioAt, startS, Ob.val, List.set_cons_zero, List.set_cons_succ, List.length_cons, List.length_nil, Nat.reduceAdd, Nat.reduceSub, Nat.reduceLT, Nat.sub_self, List.replicate_zero, List.replicate_succ, List.cons_append, List.nil_append, List.append_nil, reduceIte, Option.map_some, Option.map_none, List.not_mem_nil, List.nodup_nil, if_true, if_false, Bool.false_eq_true, eq_self, or_self, or_false, false_or, Bool.not_true, Bool.not_false, List.map_cons, List.map_nil, decide_true, decide_false, k_mul m1, k_mul m2, k_mul m3, rd]
theorem r_ltimes {k : Nat} (h : 3 ≤ k) {a b : Rat} (ha : Bt 3900 a) (hb : Bt 3900 b) : (calAt g.pr k).run i__law_times [.sh (fr a), .sh (fr b)] = .ok (.sh (fr (a * b))) [] := by
  obtain ⟨k, rfl⟩ := Nat.exists_eq_add_of_le' (show 1 ≤ k by omega)
  rw [rr k (t := ⟨f__law_times, _, _, _⟩) rfl]
  rw [rat_mul]
  have m1 := okMul_of ha.1 hb.1 (by decide)
  have m3 := okMul_of ha.2 hb.2 (by decide)
  have rd := r_lratio (k := k) (by omega) (a := a.num * b.num) (Int.mul_ne_zero (den_ne a) (den_ne b)) ((ha.2.mul hb.2).mono (by decide))
  simp only [runFd, f__law_times, fr, q_var, q_int, q_str, q_bl, q_non, q_glo, q_bin, q_neg, q_cmp, q_chain, q_and, q_or, q_not, q_ife, q_ix, q_cget, q_dix, q_orv, q_dicm, ky0, ky1, ne_app, q_dic, ne_ok, tr_non, tr_int, tr_lst, q_sl, q_rev, q_tup, q_lst, q_call, n_callN, n_evT, n_tmp, n_isTv, n_isT2, n_isTc, n_aV0, n_aVd, n_aVv, n_hT0, n_hTt, n_hTf, n_scB, n_scI, n_scN, n_scT, n_scL, n_scO, n_let0, n_letD, n_letV, n_letG, q_bf, q_isi, q_lcl, q_app, q_ext, q_pop, q_ins, q_an0, q_an1, q_or0, q_or1, q_ds0, q_ds1, q_os0, q_os1, q_as0, q_as1, q_seq, q_rng, q_zip, q_enu, q_rvd, q_asgN, q_asgT, q_par, q_par3, q_tr, q_trN, q_six, q_exp, q_ret, q_ite, q_rai, q_nil, q_cons, b_app, b_ok, b_bad, b_err, p_app, p_bad, l_some, o_var, f_app, t_app, d_sh, d_ow, r_d, r_v, bM_app, a_t, a_f, rs0, rs1, nx_app, o_int, m_int, o_str, m_str, o_bl, m_bl, o_non, m_non, o_glo, m_glo, o_bin, m_bin, o_neg, m_neg, o_cmp, m_cmp, o_chain, m_chain, o_and, m_and, o_or, m_or, o_not, m_not, o_ife, m_ife, o_ix, m_ix, o_cget, m_cget, o_sl, m_sl, o_orv, m_orv, o_dix, m_dix, o_dic, m_dic, o_tup, m_tup, o_lst, m_lst, o_call, m_call, o_bf, m_bf, o_isi, m_isi, o_lc, m_lc, o_lcl, m_lcl, o_pop, m_pop, o_rfd, m_rfd, m_var, k_add, k_sub, k_mul, k_div, k_mod, k_lt, k_le, k_gt, k_ge, k_isn, k_nisn, k_isb, k_nisb, k_rev, k_eqi, k_nei, x1_0, x2_0, x2_1, x3_0, x3_1, x3_2, x4_0, x4_1, x4_2, x4_3, y2_0, y2_1, y3_0, y3_1, y3_2, n_abs, n_int, n_max, n_min, n_len, n_lent, n_tup, n_all, z0, z1, z2, z3, z4, v_app, opV_app, resV_app, ioV_app, set_app, g0, g1, g2, gS, st0, stS, sz0, sz1, sz2, sz3, sz4, sz5, sz6, sz7, sz8, sz9, sz10, sz11, sz12, sz13, sz14, sz15, sz16, sz17, sz18, sz19, sz20, io_is_whole, io_is_fraction, io_divisor_of, io_pen_machine, io_is_joint, io_is_above, io_are_joints, io_is_step, io_is_machine, io__law_cell_at, io__law_state, io__law_take, io__law_divisor, io__law_ratio, io__law_plus, io__law_minus, io__law_times, io__law_over, io__law_small, io__law_above, io__law_four_rods, io__law_same, io_law, con_MOST_STEPS, asgM, callM, callR, ioIx, argSls, argSl, ioSl, callE, putOuts, outsOf, goodArgs, ioAt, startS, Ob.val, List.set_cons_zero, List.set_cons_succ, List.length_cons, List.length_nil, Nat.reduceAdd, Nat.reduceSub, Nat.reduceLT, Nat.sub_self, List.replicate_zero, List.replicate_succ, List.cons_append, List.nil_append, List.append_nil, reduceIte, Option.map_some, Option.map_none, List.not_mem_nil, List.nodup_nil, if_true, if_false, Bool.false_eq_true, eq_self, or_self, or_false, false_or, Bool.not_true, Bool.not_false, List.map_cons, List.map_nil, decide_true, decide_false, k_mul m1, k_mul m3, rd]
/-- a pair of fractions -/
def pr (p : Nu) : D := .tuple [fr p.1, fr p.2]
def pp (p : Po) : D := .tuple [pr p.1, pr p.2]
theorem un_div (b : Rat) (u : Nat) : Rat.divInt (b.num * ((if b.num < 0 then -b.num else b.num) * (u : Int))) ((b.den : Int) * (b.den : Int)) = b * ab b * (u : Rat) := by
  have e1 : Rat.divInt ((if b.num < 0 then -b.num else b.num) * (u : Int)) (b.den : Int) = ab b * (u : Rat) := by
    have z : ab b = Rat.divInt (if b.num < 0 then -b.num else b.num) (b.den : Int) := by
      unfold ab
      split
      · rw [← Rat.num_divInt_den (-b)] <;> rfl
      · rw [Rat.num_divInt_den]
    have z2 : ((u : Rat)) = Rat.divInt (u : Int) 1 := (Rat.num_divInt_den (u : Rat)).symm
    rw [z, z2, Rat.divInt_mul_divInt, Int.mul_one]
  rw [Rat.mul_assoc, ← e1]
  have z := Rat.divInt_mul_divInt b.num ((if b.num < 0 then -b.num else b.num) * (u : Int)) (d₁ := b.den) (d₂ := b.den)
  rw [Rat.num_divInt_den] at z
  exact z.symm
theorem Un.of {u : Nat} (h0 : 0 < u) (h : u < 2 ^ 10) : Un (u : Rat) := ⟨by
  have : (0 : Rat) < ((u : Nat) : Rat) := by exact_mod_cast h0
  exact this, (Bt.nat (n := 10) (by decide) h).mono (by decide)⟩
end Lw
set_option Elab.async false
set_option linter.all false
set_option maxRecDepth 100000
set_option maxHeartbeats 400000
/-! What the law draws. -/
namespace Lw
open PySem Hg
def Iv (s : Int) (b : Bool) : Prop := b = false → 0 ≤ s ∧ s < 2147483647
abbrev so (s : Int) (b : Bool) : Ob := .lst [.int s, .bool b]
theorem b31 {i : Int} (h0 : 0 ≤ i) (h : i < 2147483648) : Bi 31 i := by
  unfold Bi
  omega
theorem r_take {k : Nat} (h : 1 ≤ k) {s : Int} {b : Bool} (iv : Iv s b) {m : Int} (hm : 0 < m) (bm : m < 2147483648) :
    ∃ r s', 0 ≤ r ∧ r < m ∧ Iv s' b ∧ (calAt g.pr k).run i__law_take [.ow (so s b), .sh (.int m)] = .ok (.sh (.int r)) [so s' b] := by
  obtain ⟨k, rfl⟩ := Nat.exists_eq_add_of_le' (show 1 ≤ k by omega)
  rw [rr k (t := ⟨f__law_take, _, _, _⟩) rfl]
  have m0 : m ≠ 0 := by omega
  have om : okDiv m = true := okDiv_of (b31 (by omega) bm) m0 (by decide)
  cases b with
  | true =>
    obtain ⟨f1, f2⟩ := fmod_in (a := s) hm
    refine ⟨s.fmod m, s.fdiv m, f1, f2, fun z => (nomatch z), ?_⟩
    simp (decide := true) only [runFd, f__law_take, so, q_var, q_int, q_str, q_bl, q_non, q_glo, q_bin, q_neg, q_cmp, q_chain, q_and, q_or, q_not, q_ife, q_ix, q_cget, q_dix, q_orv, q_dicm, ky0, ky1, ne_app, q_dic, ne_ok, tr_non, tr_int, tr_lst, q_sl, q_rev, q_tup, q_lst, q_call, n_callN, n_evT, n_tmp, n_isTv, n_isT2, n_isTc, n_aV0, n_aVd, n_aVv, n_hT0, n_hTt, n_hTf, n_scB, n_scI, n_scN, n_scT, n_scL, n_scO, n_let0, n_letD, n_letV, n_letG, q_bf, q_isi, q_lcl, q_app, q_ext, q_pop, q_ins, q_an0, q_an1, q_or0, q_or1, q_ds0, q_ds1, q_os0, q_os1, q_as0, q_as1, q_seq, q_rng, q_zip, q_enu, q_rvd, q_asgN, q_asgT, q_par, q_par3, q_tr, q_trN, q_six, q_exp, q_ret, q_ite, q_rai, q_nil, q_cons, b_app, b_ok, b_bad, b_err, p_app, p_bad, l_some, o_var, f_app, t_app, d_sh, d_ow, r_d, r_v, bM_app, a_t, a_f, rs0, rs1, nx_app, o_int, m_int, o_str, m_str, o_bl, m_bl, o_non, m_non, o_glo, m_glo, o_bin, m_bin, o_neg, m_neg, o_cmp, m_cmp, o_chain, m_chain, o_and, m_and, o_or, m_or, o_not, m_not, o_ife, m_ife, o_ix, m_ix, o_cget, m_cget, o_sl, m_sl, o_orv, m_orv, o_dix, m_dix, o_dic, m_dic, o_tup, m_tup, o_lst, m_lst, o_call, m_call, o_bf, m_bf, o_isi, m_isi, o_lc, m_lc, o_lcl, m_lcl, o_pop, m_pop, o_rfd, m_rfd, m_var, k_add, k_sub, k_mul, k_div, k_mod, k_lt, k_le, k_gt, k_ge, k_isn, k_nisn, k_isb, k_nisb, k_rev, k_eqi, k_nei, x1_0, x2_0, x2_1, x3_0, x3_1, x3_2, x4_0, x4_1, x4_2, x4_3, y2_0, y2_1, y3_0, y3_1, y3_2, n_abs, n_int, n_max, n_min, n_len, n_lent, n_tup, n_all, z0, z1, z2, z3, z4, v_app, opV_app, resV_app, ioV_app, set_app, g0, g1, g2, gS, st0, stS, sz0, sz1, sz2, sz3, sz4, sz5, sz6, sz7, sz8, sz9, sz10, sz11, sz12, sz13, sz14, sz15, sz16, sz17, sz18, sz19, sz20, io_is_whole, io_is_fraction, io_divisor_of, io_pen_machine, io_is_joint, io_is_above, io_are_joints, io_is_step, io_is_machine, io__law_cell_at, io__law_state, io__law_take, io__law_divisor, io__law_ratio, io__law_plus, io__law_minus, io__law_times, io__law_over, io__law_small, io__law_above, io__law_four_rods, io__law_same, io_law, con_MOST_STEPS, asgM, callM, callR, ioIx, argSls, argSl, ioSl, callE, putOuts, outsOf, goodArgs, ioAt, startS, Ob.val, List.set_cons_zero, List.set_cons_succ, List.length_cons, List.length_nil, Nat.reduceAdd, Nat.reduceSub, Nat.reduceLT, Nat.sub_self, List.replicate_zero, List.replicate_succ, List.cons_append, List.nil_append, List.append_nil, reduceIte, Option.map_some, Option.map_none, List.not_mem_nil, List.nodup_nil, if_true, if_false, Bool.false_eq_true, eq_self, or_self, or_false, false_or, Bool.not_true, Bool.not_false, List.map_cons, List.map_nil, decide_true, decide_false, q_ownL, q_six', q_sixJ, ixN20, q_setL, y2_0, y2_1, k_mod m0, k_div om, List.mem_singleton]
  | false =>
    obtain ⟨i1, i2⟩ := iv rfl
    have k1 : okMul s 48271 = true := okMul_of (b31 i1 (by omega)) (b31 (i := 48271) (by decide) (by decide)) (by decide)
    have n1 : (2147483647 : Int) ≠ 0 := by decide
    obtain ⟨a1, a2⟩ := fmod_in (a := s * 48271 + 29) (m := 2147483647) (by decide)
    generalize hs1 : (s * 48271 + 29).fmod 2147483647 = s1 at a1 a2
    have k2 : okMul s1 s1 = true := okMul_of (b31 a1 (by omega)) (b31 a1 (by omega)) (by decide)
    have k3 : okMul 39373 s1 = true := okMul_of (b31 (i := 39373) (by decide) (by decide)) (b31 a1 (by omega)) (by decide)
    have n2 : (2147483629 : Int) ≠ 0 := by decide
    obtain ⟨c1, c2⟩ := fmod_in (a := s1 * s1 + 39373 * s1 + 7) (m := 2147483629) (by decide)
    generalize hs2 : (s1 * s1 + 39373 * s1 + 7).fmod 2147483629 = s2 at c1 c2
    have k4 : okMul s2 s2 = true := okMul_of (b31 c1 (by omega)) (b31 c1 (by omega)) (by decide)
    have k5 : okMul 16807 s2 = true := okMul_of (b31 (i := 16807) (by decide) (by decide)) (b31 c1 (by omega)) (by decide)
    have n3 : (2147483587 : Int) ≠ 0 := by decide
    generalize hs3 : (s2 * s2 + 16807 * s2).fmod 2147483587 = s3
    have o8 : okDiv 8 = true := by decide
    obtain ⟨f1, f2⟩ := fmod_in (a := s3.fdiv 8) hm
    refine ⟨(s3.fdiv 8).fmod m, s1, f1, f2, fun _ => ⟨a1, a2⟩, ?_⟩
    simp (decide := true) only [runFd, f__law_take, so, q_var, q_int, q_str, q_bl, q_non, q_glo, q_bin, q_neg, q_cmp, q_chain, q_and, q_or, q_not, q_ife, q_ix, q_cget, q_dix, q_orv, q_dicm, ky0, ky1, ne_app, q_dic, ne_ok, tr_non, tr_int, tr_lst, q_sl, q_rev, q_tup, q_lst, q_call, n_callN, n_evT, n_tmp, n_isTv, n_isT2, n_isTc, n_aV0, n_aVd, n_aVv, n_hT0, n_hTt, n_hTf, n_scB, n_scI, n_scN, n_scT, n_scL, n_scO, n_let0, n_letD, n_letV, n_letG, q_bf, q_isi, q_lcl, q_app, q_ext, q_pop, q_ins, q_an0, q_an1, q_or0, q_or1, q_ds0, q_ds1, q_os0, q_os1, q_as0, q_as1, q_seq, q_rng, q_zip, q_enu, q_rvd, q_asgN, q_asgT, q_par, q_par3, q_tr, q_trN, q_six, q_exp, q_ret, q_ite, q_rai, q_nil, q_cons, b_app, b_ok, b_bad, b_err, p_app, p_bad, l_some, o_var, f_app, t_app, d_sh, d_ow, r_d, r_v, bM_app, a_t, a_f, rs0, rs1, nx_app, o_int, m_int, o_str, m_str, o_bl, m_bl, o_non, m_non, o_glo, m_glo, o_bin, m_bin, o_neg, m_neg, o_cmp, m_cmp, o_chain, m_chain, o_and, m_and, o_or, m_or, o_not, m_not, o_ife, m_ife, o_ix, m_ix, o_cget, m_cget, o_sl, m_sl, o_orv, m_orv, o_dix, m_dix, o_dic, m_dic, o_tup, m_tup, o_lst, m_lst, o_call, m_call, o_bf, m_bf, o_isi, m_isi, o_lc, m_lc, o_lcl, m_lcl, o_pop, m_pop, o_rfd, m_rfd, m_var, k_add, k_sub, k_mul, k_div, k_mod, k_lt, k_le, k_gt, k_ge, k_isn, k_nisn, k_isb, k_nisb, k_rev, k_eqi, k_nei, x1_0, x2_0, x2_1, x3_0, x3_1, x3_2, x4_0, x4_1, x4_2, x4_3, y2_0, y2_1, y3_0, y3_1, y3_2, n_abs, n_int, n_max, n_min, n_len, n_lent, n_tup, n_all, z0, z1, z2, z3, z4, v_app, opV_app, resV_app, ioV_app, set_app, g0, g1, g2, gS, st0, stS, sz0, sz1, sz2, sz3, sz4, sz5, sz6, sz7, sz8, sz9, sz10, sz11, sz12, sz13, sz14, sz15, sz16, sz17, sz18, sz19, sz20, io_is_whole, io_is_fraction, io_divisor_of, io_pen_machine, io_is_joint, io_is_above, io_are_joints, io_is_step, io_is_machine, io__law_cell_at, io__law_state, io__law_take, io__law_divisor, io__law_ratio, io__law_plus, io__law_minus, io__law_times, io__law_over, io__law_small, io__law_above, io__law_four_rods, io__law_same, io_law, con_MOST_STEPS, asgM, callM, callR, ioIx, argSls, argSl, ioSl, callE, putOuts, outsOf, goodArgs, ioAt, startS, Ob.val, List.set_cons_zero, List.set_cons_succ, List.length_cons, List.length_nil, Nat.reduceAdd, Nat.reduceSub, Nat.reduceLT, Nat.sub_self, List.replicate_zero, List.replicate_succ, List.cons_append, List.nil_append, List.append_nil, reduceIte, Option.map_some, Option.map_none, List.not_mem_nil, List.nodup_nil, if_true, if_false, Bool.false_eq_true, eq_self, or_self, or_false, false_or, Bool.not_true, Bool.not_false, List.map_cons, List.map_nil, decide_true, decide_false, q_ownL, q_six', q_sixJ, ixN20, q_setL, y2_0, y2_1, k_mul k1, k_mul k2, k_mul k3, k_mul k4, k_mul k5, k_mod n1, k_mod n2, k_mod n3, k_div o8, k_mod m0, hs1, hs2, hs3, List.mem_singleton]
theorem r_small {k : Nat} (h : 3 ≤ k) {s : Int} {b : Bool} (iv : Iv s b) : ∃ (q : Rat) (s' : Int), Bt 5 q ∧ Iv s' b ∧ (calAt g.pr k).run i__law_small [.ow (so s b)] = .ok (.sh (fr q)) [so s' b] := by
  obtain ⟨k, rfl⟩ := Nat.exists_eq_add_of_le' (show 1 ≤ k by omega)
  rw [rr k (t := ⟨f__law_small, _, _, _⟩) rfl]
  obtain ⟨r1, s1, a1, a2, iv1, e1⟩ := r_take (k := k) (by omega) iv (m := 19) (by decide) (by decide)
  obtain ⟨r2, s2, b1, b2, iv2, e2⟩ := r_take (k := k) (by omega) iv1 (m := 6) (by decide) (by decide)
  obtain ⟨r3, s3, c1, c2, iv3, e3⟩ := r_take (k := k) (by omega) iv2 (m := 3) (by decide) (by decide)
  have hx : ∃ x : Int, 0 ≤ x ∧ x < 6 ∧ ixD (.list [.int 0, .int 0, .int r2]) (.int r3) = some (.int x) := by
    rcases (show r3 = 0 ∨ r3 = 1 ∨ r3 = 2 by omega) with rfl | rfl | rfl
    · exact ⟨0, by decide, by decide, rfl⟩
    · exact ⟨0, by decide, by decide, rfl⟩
    · exact ⟨r2, b1, b2, rfl⟩
  obtain ⟨x, x0, x1, hx⟩ := hx
  have hd : (1 + x) ≠ 0 := by omega
  have bd : Bi 5 (1 + x) := by unfold Bi; omega
  have bn : Bi 5 (r1 - 9) := by unfold Bi; omega
  have rt := r_lratio (k := k) (by omega) (a := r1 - 9) hd (bd.mono (by decide))
  refine ⟨Rat.divInt (r1 - 9) (1 + x), s3, Bt.divInt hd bn bd, iv3, ?_⟩
  unfold so at *
  simp (decide := true) only [runFd, f__law_small, q_var, q_int, q_str, q_bl, q_non, q_glo, q_bin, q_neg, q_cmp, q_chain, q_and, q_or, q_not, q_ife, q_ix, q_cget, q_dix, q_orv, q_dicm, ky0, ky1, ne_app, q_dic, ne_ok, tr_non, tr_int, tr_lst, q_sl, q_rev, q_tup, q_lst, q_call, n_callN, n_evT, n_tmp, n_isTv, n_isT2, n_isTc, n_aV0, n_aVd, n_aVv, n_hT0, n_hTt, n_hTf, n_scB, n_scI, n_scN, n_scT, n_scL, n_scO, n_let0, n_letD, n_letV, n_letG, q_bf, q_isi, q_lcl, q_app, q_ext, q_pop, q_ins, q_an0, q_an1, q_or0, q_or1, q_ds0, q_ds1, q_os0, q_os1, q_as0, q_as1, q_seq, q_rng, q_zip, q_enu, q_rvd, q_asgN, q_asgT, q_par, q_par3, q_tr, q_trN, q_six, q_exp, q_ret, q_ite, q_rai, q_nil, q_cons, b_app, b_ok, b_bad, b_err, p_app, p_bad, l_some, o_var, f_app, t_app, d_sh, d_ow, r_d, r_v, bM_app, a_t, a_f, rs0, rs1, nx_app, o_int, m_int, o_str, m_str, o_bl, m_bl, o_non, m_non, o_glo, m_glo, o_bin, m_bin, o_neg, m_neg, o_cmp, m_cmp, o_chain, m_chain, o_and, m_and, o_or, m_or, o_not, m_not, o_ife, m_ife, o_ix, m_ix, o_cget, m_cget, o_sl, m_sl, o_orv, m_orv, o_dix, m_dix, o_dic, m_dic, o_tup, m_tup, o_lst, m_lst, o_call, m_call, o_bf, m_bf, o_isi, m_isi, o_lc, m_lc, o_lcl, m_lcl, o_pop, m_pop, o_rfd, m_rfd, m_var, k_add, k_sub, k_mul, k_div, k_mod, k_lt, k_le, k_gt, k_ge, k_isn, k_nisn, k_isb, k_nisb, k_rev, k_eqi, k_nei, x1_0, x2_0, x2_1, x3_0, x3_1, x3_2, x4_0, x4_1, x4_2, x4_3, y2_0, y2_1, y3_0, y3_1, y3_2, n_abs, n_int, n_max, n_min, n_len, n_lent, n_tup, n_all, z0, z1, z2, z3, z4, v_app, opV_app, resV_app, ioV_app, set_app, g0, g1, g2, gS, st0, stS, sz0, sz1, sz2, sz3, sz4, sz5, sz6, sz7, sz8, sz9, sz10, sz11, sz12, sz13, sz14, sz15, sz16, sz17, sz18, sz19, sz20, io_is_whole, io_is_fraction, io_divisor_of, io_pen_machine, io_is_joint, io_is_above, io_are_joints, io_is_step, io_is_machine, io__law_cell_at, io__law_state, io__law_take, io__law_divisor, io__law_ratio, io__law_plus, io__law_minus, io__law_times, io__law_over, io__law_small, io__law_above, io__law_four_rods, io__law_same, io_law, con_MOST_STEPS, asgM, callM, callR, ioIx, argSls, argSl, ioSl, callE, putOuts, outsOf, goodArgs, ioAt, startS, Ob.val, List.set_cons_zero, List.set_cons_succ, List.length_cons, List.length_nil, Nat.reduceAdd, Nat.reduceSub, Nat.reduceLT, Nat.sub_self, List.replicate_zero, List.replicate_succ, List.cons_append, List.nil_append, List.append_nil, reduceIte, Option.map_some, Option.map_none, List.not_mem_nil, List.nodup_nil, if_true, if_false, Bool.false_eq_true, eq_self, or_self, or_false, false_or, Bool.not_true, Bool.not_false, List.map_cons, List.map_nil, decide_true, decide_false, q_ownL, e1, e2, e3, hx, rt, List.nodup_cons]
theorem r_cell_at {k : Nat} (h : 1 ≤ k) {ns : List Int} {i : Nat} : ∃ c : Int, (calAt g.pr k).run i__law_cell_at [lawArg ns, .sh (.int (i : Int))] = .ok (.sh (.int c)) [] := by
  obtain ⟨k, rfl⟩ := Nat.exists_eq_add_of_le' (show 1 ≤ k by omega)
  rw [rr k (t := ⟨f__law_cell_at, _, _, _⟩) rfl]
  unfold lawArg
  by_cases w : i < ns.length
  · have hw : decide ((i : Int) < ((ns.map PyData.int).length : Int)) = true := decide_eq_true (by rw [List.length_map]; omega)
    have hx := ix_of (xs := ns.map PyData.int) (r := (i : Int)) (by omega) (by rw [List.length_map]; omega)
    rw [List.getElem_map] at hx
    refine ⟨ns[(i : Int).toNat], ?_⟩
    simp (decide := true) only [runFd, f__law_cell_at, q_var, q_int, q_str, q_bl, q_non, q_glo, q_bin, q_neg, q_cmp, q_chain, q_and, q_or, q_not, q_ife, q_ix, q_cget, q_dix, q_orv, q_dicm, ky0, ky1, ne_app, q_dic, ne_ok, tr_non, tr_int, tr_lst, q_sl, q_rev, q_tup, q_lst, q_call, n_callN, n_evT, n_tmp, n_isTv, n_isT2, n_isTc, n_aV0, n_aVd, n_aVv, n_hT0, n_hTt, n_hTf, n_scB, n_scI, n_scN, n_scT, n_scL, n_scO, n_let0, n_letD, n_letV, n_letG, q_bf, q_isi, q_lcl, q_app, q_ext, q_pop, q_ins, q_an0, q_an1, q_or0, q_or1, q_ds0, q_ds1, q_os0, q_os1, q_as0, q_as1, q_seq, q_rng, q_zip, q_enu, q_rvd, q_asgN, q_asgT, q_par, q_par3, q_tr, q_trN, q_six, q_exp, q_ret, q_ite, q_rai, q_nil, q_cons, b_app, b_ok, b_bad, b_err, p_app, p_bad, l_some, o_var, f_app, t_app, d_sh, d_ow, r_d, r_v, bM_app, a_t, a_f, rs0, rs1, nx_app, o_int, m_int, o_str, m_str, o_bl, m_bl, o_non, m_non, o_glo, m_glo, o_bin, m_bin, o_neg, m_neg, o_cmp, m_cmp, o_chain, m_chain, o_and, m_and, o_or, m_or, o_not, m_not, o_ife, m_ife, o_ix, m_ix, o_cget, m_cget, o_sl, m_sl, o_orv, m_orv, o_dix, m_dix, o_dic, m_dic, o_tup, m_tup, o_lst, m_lst, o_call, m_call, o_bf, m_bf, o_isi, m_isi, o_lc, m_lc, o_lcl, m_lcl, o_pop, m_pop, o_rfd, m_rfd, m_var, k_add, k_sub, k_mul, k_div, k_mod, k_lt, k_le, k_gt, k_ge, k_isn, k_nisn, k_isb, k_nisb, k_rev, k_eqi, k_nei, x1_0, x2_0, x2_1, x3_0, x3_1, x3_2, x4_0, x4_1, x4_2, x4_3, y2_0, y2_1, y3_0, y3_1, y3_2, n_abs, n_int, n_max, n_min, n_len, n_lent, n_tup, n_all, z0, z1, z2, z3, z4, v_app, opV_app, resV_app, ioV_app, set_app, g0, g1, g2, gS, st0, stS, sz0, sz1, sz2, sz3, sz4, sz5, sz6, sz7, sz8, sz9, sz10, sz11, sz12, sz13, sz14, sz15, sz16, sz17, sz18, sz19, sz20, io_is_whole, io_is_fraction, io_divisor_of, io_pen_machine, io_is_joint, io_is_above, io_are_joints, io_is_step, io_is_machine, io__law_cell_at, io__law_state, io__law_take, io__law_divisor, io__law_ratio, io__law_plus, io__law_minus, io__law_times, io__law_over, io__law_small, io__law_above, io__law_four_rods, io__law_same, io_law, con_MOST_STEPS, asgM, callM, callR, ioIx, argSls, argSl, ioSl, callE, putOuts, outsOf, goodArgs, ioAt, startS, Ob.val, List.set_cons_zero, List.set_cons_succ, List.length_cons, List.length_nil, Nat.reduceAdd, Nat.reduceSub, Nat.reduceLT, Nat.sub_self, List.replicate_zero, List.replicate_succ, List.cons_append, List.nil_append, List.append_nil, reduceIte, Option.map_some, Option.map_none, List.not_mem_nil, List.nodup_nil, if_true, if_false, Bool.false_eq_true, eq_self, or_self, or_false, false_or, Bool.not_true, Bool.not_false, List.map_cons, List.map_nil, decide_true, decide_false, q_ownL, n_len, hw, hx]
  · have hw : decide ((i : Int) < ((ns.map PyData.int).length : Int)) = false := decide_eq_false (by rw [List.length_map]; omega)
    refine ⟨0, ?_⟩
    simp (decide := true) only [runFd, f__law_cell_at, q_var, q_int, q_str, q_bl, q_non, q_glo, q_bin, q_neg, q_cmp, q_chain, q_and, q_or, q_not, q_ife, q_ix, q_cget, q_dix, q_orv, q_dicm, ky0, ky1, ne_app, q_dic, ne_ok, tr_non, tr_int, tr_lst, q_sl, q_rev, q_tup, q_lst, q_call, n_callN, n_evT, n_tmp, n_isTv, n_isT2, n_isTc, n_aV0, n_aVd, n_aVv, n_hT0, n_hTt, n_hTf, n_scB, n_scI, n_scN, n_scT, n_scL, n_scO, n_let0, n_letD, n_letV, n_letG, q_bf, q_isi, q_lcl, q_app, q_ext, q_pop, q_ins, q_an0, q_an1, q_or0, q_or1, q_ds0, q_ds1, q_os0, q_os1, q_as0, q_as1, q_seq, q_rng, q_zip, q_enu, q_rvd, q_asgN, q_asgT, q_par, q_par3, q_tr, q_trN, q_six, q_exp, q_ret, q_ite, q_rai, q_nil, q_cons, b_app, b_ok, b_bad, b_err, p_app, p_bad, l_some, o_var, f_app, t_app, d_sh, d_ow, r_d, r_v, bM_app, a_t, a_f, rs0, rs1, nx_app, o_int, m_int, o_str, m_str, o_bl, m_bl, o_non, m_non, o_glo, m_glo, o_bin, m_bin, o_neg, m_neg, o_cmp, m_cmp, o_chain, m_chain, o_and, m_and, o_or, m_or, o_not, m_not, o_ife, m_ife, o_ix, m_ix, o_cget, m_cget, o_sl, m_sl, o_orv, m_orv, o_dix, m_dix, o_dic, m_dic, o_tup, m_tup, o_lst, m_lst, o_call, m_call, o_bf, m_bf, o_isi, m_isi, o_lc, m_lc, o_lcl, m_lcl, o_pop, m_pop, o_rfd, m_rfd, m_var, k_add, k_sub, k_mul, k_div, k_mod, k_lt, k_le, k_gt, k_ge, k_isn, k_nisn, k_isb, k_nisb, k_rev, k_eqi, k_nei, x1_0, x2_0, x2_1, x3_0, x3_1, x3_2, x4_0, x4_1, x4_2, x4_3, y2_0, y2_1, y3_0, y3_1, y3_2, n_abs, n_int, n_max, n_min, n_len, n_lent, n_tup, n_all, z0, z1, z2, z3, z4, v_app, opV_app, resV_app, ioV_app, set_app, g0, g1, g2, gS, st0, stS, sz0, sz1, sz2, sz3, sz4, sz5, sz6, sz7, sz8, sz9, sz10, sz11, sz12, sz13, sz14, sz15, sz16, sz17, sz18, sz19, sz20, io_is_whole, io_is_fraction, io_divisor_of, io_pen_machine, io_is_joint, io_is_above, io_are_joints, io_is_step, io_is_machine, io__law_cell_at, io__law_state, io__law_take, io__law_divisor, io__law_ratio, io__law_plus, io__law_minus, io__law_times, io__law_over, io__law_small, io__law_above, io__law_four_rods, io__law_same, io_law, con_MOST_STEPS, asgM, callM, callR, ioIx, argSls, argSl, ioSl, callE, putOuts, outsOf, goodArgs, ioAt, startS, Ob.val, List.set_cons_zero, List.set_cons_succ, List.length_cons, List.length_nil, Nat.reduceAdd, Nat.reduceSub, Nat.reduceLT, Nat.sub_self, List.replicate_zero, List.replicate_succ, List.cons_append, List.nil_append, List.append_nil, reduceIte, Option.map_some, Option.map_none, List.not_mem_nil, List.nodup_nil, if_true, if_false, Bool.false_eq_true, eq_self, or_self, or_false, false_or, Bool.not_true, Bool.not_false, List.map_cons, List.map_nil, decide_true, decide_false, q_ownL, n_len, hw]
theorem r_state {k : Nat} (h : 2 ≤ k) {ns : List Int} {i : Nat} : ∃ (s : Int) (b : Bool), Iv s b ∧ (calAt g.pr k).run i__law_state [lawArg ns, .sh (.int (i : Int))] = .ok (.ow (so s b)) [] := by
  obtain ⟨k, rfl⟩ := Nat.exists_eq_add_of_le' (show 1 ≤ k by omega)
  rw [rr k (t := ⟨f__law_state, _, _, _⟩) rfl]
  obtain ⟨c, e1⟩ := r_cell_at (k := k) (by omega) (ns := ns) (i := i)
  unfold lawArg at *
  by_cases w : 1000000000000000000 ≤ c
  · have hw : decide ((1000000000000000000 : Int) ≤ c) = true := decide_eq_true w
    refine ⟨c - 1000000000000000000, true, fun z => (nomatch z), ?_⟩
    unfold so
    simp (decide := true) only [runFd, f__law_state, q_var, q_int, q_str, q_bl, q_non, q_glo, q_bin, q_neg, q_cmp, q_chain, q_and, q_or, q_not, q_ife, q_ix, q_cget, q_dix, q_orv, q_dicm, ky0, ky1, ne_app, q_dic, ne_ok, tr_non, tr_int, tr_lst, q_sl, q_rev, q_tup, q_lst, q_call, n_callN, n_evT, n_tmp, n_isTv, n_isT2, n_isTc, n_aV0, n_aVd, n_aVv, n_hT0, n_hTt, n_hTf, n_scB, n_scI, n_scN, n_scT, n_scL, n_scO, n_let0, n_letD, n_letV, n_letG, q_bf, q_isi, q_lcl, q_app, q_ext, q_pop, q_ins, q_an0, q_an1, q_or0, q_or1, q_ds0, q_ds1, q_os0, q_os1, q_as0, q_as1, q_seq, q_rng, q_zip, q_enu, q_rvd, q_asgN, q_asgT, q_par, q_par3, q_tr, q_trN, q_six, q_exp, q_ret, q_ite, q_rai, q_nil, q_cons, b_app, b_ok, b_bad, b_err, p_app, p_bad, l_some, o_var, f_app, t_app, d_sh, d_ow, r_d, r_v, bM_app, a_t, a_f, rs0, rs1, nx_app, o_int, m_int, o_str, m_str, o_bl, m_bl, o_non, m_non, o_glo, m_glo, o_bin, m_bin, o_neg, m_neg, o_cmp, m_cmp, o_chain, m_chain, o_and, m_and, o_or, m_or, o_not, m_not, o_ife, m_ife, o_ix, m_ix, o_cget, m_cget, o_sl, m_sl, o_orv, m_orv, o_dix, m_dix, o_dic, m_dic, o_tup, m_tup, o_lst, m_lst, o_call, m_call, o_bf, m_bf, o_isi, m_isi, o_lc, m_lc, o_lcl, m_lcl, o_pop, m_pop, o_rfd, m_rfd, m_var, k_add, k_sub, k_mul, k_div, k_mod, k_lt, k_le, k_gt, k_ge, k_isn, k_nisn, k_isb, k_nisb, k_rev, k_eqi, k_nei, x1_0, x2_0, x2_1, x3_0, x3_1, x3_2, x4_0, x4_1, x4_2, x4_3, y2_0, y2_1, y3_0, y3_1, y3_2, n_abs, n_int, n_max, n_min, n_len, n_lent, n_tup, n_all, z0, z1, z2, z3, z4, v_app, opV_app, resV_app, ioV_app, set_app, g0, g1, g2, gS, st0, stS, sz0, sz1, sz2, sz3, sz4, sz5, sz6, sz7, sz8, sz9, sz10, sz11, sz12, sz13, sz14, sz15, sz16, sz17, sz18, sz19, sz20, io_is_whole, io_is_fraction, io_divisor_of, io_pen_machine, io_is_joint, io_is_above, io_are_joints, io_is_step, io_is_machine, io__law_cell_at, io__law_state, io__law_take, io__law_divisor, io__law_ratio, io__law_plus, io__law_minus, io__law_times, io__law_over, io__law_small, io__law_above, io__law_four_rods, io__law_same, io_law, con_MOST_STEPS, asgM, callM, callR, ioIx, argSls, argSl, ioSl, callE, putOuts, outsOf, goodArgs, ioAt, startS, Ob.val, List.set_cons_zero, List.set_cons_succ, List.length_cons, List.length_nil, Nat.reduceAdd, Nat.reduceSub, Nat.reduceLT, Nat.sub_self, List.replicate_zero, List.replicate_succ, List.cons_append, List.nil_append, List.append_nil, reduceIte, Option.map_some, Option.map_none, List.not_mem_nil, List.nodup_nil, if_true, if_false, Bool.false_eq_true, eq_self, or_self, or_false, false_or, Bool.not_true, Bool.not_false, List.map_cons, List.map_nil, decide_true, decide_false, e1, k_pow18, hw]
  · have hw : decide ((1000000000000000000 : Int) ≤ c) = false := decide_eq_false w
    have n1 : (2147483647 : Int) ≠ 0 := by decide
    obtain ⟨a1, a2⟩ := fmod_in (a := c) (m := 2147483647) (by decide)
    refine ⟨c.fmod 2147483647, false, fun _ => ⟨a1, a2⟩, ?_⟩
    unfold so
    simp (decide := true) only [runFd, f__law_state, q_var, q_int, q_str, q_bl, q_non, q_glo, q_bin, q_neg, q_cmp, q_chain, q_and, q_or, q_not, q_ife, q_ix, q_cget, q_dix, q_orv, q_dicm, ky0, ky1, ne_app, q_dic, ne_ok, tr_non, tr_int, tr_lst, q_sl, q_rev, q_tup, q_lst, q_call, n_callN, n_evT, n_tmp, n_isTv, n_isT2, n_isTc, n_aV0, n_aVd, n_aVv, n_hT0, n_hTt, n_hTf, n_scB, n_scI, n_scN, n_scT, n_scL, n_scO, n_let0, n_letD, n_letV, n_letG, q_bf, q_isi, q_lcl, q_app, q_ext, q_pop, q_ins, q_an0, q_an1, q_or0, q_or1, q_ds0, q_ds1, q_os0, q_os1, q_as0, q_as1, q_seq, q_rng, q_zip, q_enu, q_rvd, q_asgN, q_asgT, q_par, q_par3, q_tr, q_trN, q_six, q_exp, q_ret, q_ite, q_rai, q_nil, q_cons, b_app, b_ok, b_bad, b_err, p_app, p_bad, l_some, o_var, f_app, t_app, d_sh, d_ow, r_d, r_v, bM_app, a_t, a_f, rs0, rs1, nx_app, o_int, m_int, o_str, m_str, o_bl, m_bl, o_non, m_non, o_glo, m_glo, o_bin, m_bin, o_neg, m_neg, o_cmp, m_cmp, o_chain, m_chain, o_and, m_and, o_or, m_or, o_not, m_not, o_ife, m_ife, o_ix, m_ix, o_cget, m_cget, o_sl, m_sl, o_orv, m_orv, o_dix, m_dix, o_dic, m_dic, o_tup, m_tup, o_lst, m_lst, o_call, m_call, o_bf, m_bf, o_isi, m_isi, o_lc, m_lc, o_lcl, m_lcl, o_pop, m_pop, o_rfd, m_rfd, m_var, k_add, k_sub, k_mul, k_div, k_mod, k_lt, k_le, k_gt, k_ge, k_isn, k_nisn, k_isb, k_nisb, k_rev, k_eqi, k_nei, x1_0, x2_0, x2_1, x3_0, x3_1, x3_2, x4_0, x4_1, x4_2, x4_3, y2_0, y2_1, y3_0, y3_1, y3_2, n_abs, n_int, n_max, n_min, n_len, n_lent, n_tup, n_all, z0, z1, z2, z3, z4, v_app, opV_app, resV_app, ioV_app, set_app, g0, g1, g2, gS, st0, stS, sz0, sz1, sz2, sz3, sz4, sz5, sz6, sz7, sz8, sz9, sz10, sz11, sz12, sz13, sz14, sz15, sz16, sz17, sz18, sz19, sz20, io_is_whole, io_is_fraction, io_divisor_of, io_pen_machine, io_is_joint, io_is_above, io_are_joints, io_is_step, io_is_machine, io__law_cell_at, io__law_state, io__law_take, io__law_divisor, io__law_ratio, io__law_plus, io__law_minus, io__law_times, io__law_over, io__law_small, io__law_above, io__law_four_rods, io__law_same, io_law, con_MOST_STEPS, asgM, callM, callR, ioIx, argSls, argSl, ioSl, callE, putOuts, outsOf, goodArgs, ioAt, startS, Ob.val, List.set_cons_zero, List.set_cons_succ, List.length_cons, List.length_nil, Nat.reduceAdd, Nat.reduceSub, Nat.reduceLT, Nat.sub_self, List.replicate_zero, List.replicate_succ, List.cons_append, List.nil_append, List.append_nil, reduceIte, Option.map_some, Option.map_none, List.not_mem_nil, List.nodup_nil, if_true, if_false, Bool.false_eq_true, eq_self, or_self, or_false, false_or, Bool.not_true, Bool.not_false, List.map_cons, List.map_nil, decide_true, decide_false, e1, k_pow18, hw, k_mod n1]
/-! ### the same -/
theorem same_int {k : Nat} (h : 1 ≤ k) (i : Int) : (calAt g.pr k).run i__law_same [.sh (.int i), .sh (.int i)] = .ok (.sh (.bool true)) [] := by
  obtain ⟨k, rfl⟩ := Nat.exists_eq_add_of_le' (show 1 ≤ k by omega)
  rw [rr k (t := ⟨f__law_same, _, _, _⟩) rfl]
  have t1 : [Ty.tuple, Ty.list].any (isTy (.int i)) = false := rfl
  have t2 : [Ty.bool].any (isTy (.int i)) = false := rfl
  have e : decide (i = i) = true := decide_eq_true rfl
  simp (decide := true) only [runFd, f__law_same, q_var, q_int, q_str, q_bl, q_non, q_glo, q_bin, q_neg, q_cmp, q_chain, q_and, q_or, q_not, q_ife, q_ix, q_cget, q_dix, q_orv, q_dicm, ky0, ky1, ne_app, q_dic, ne_ok, tr_non, tr_int, tr_lst, q_sl, q_rev, q_tup, q_lst, q_call, n_callN, n_evT, n_tmp, n_isTv, n_isT2, n_isTc, n_aV0, n_aVd, n_aVv, n_hT0, n_hTt, n_hTf, n_scB, n_scI, n_scN, n_scT, n_scL, n_scO, n_let0, n_letD, n_letV, n_letG, q_bf, q_isi, q_lcl, q_app, q_ext, q_pop, q_ins, q_an0, q_an1, q_or0, q_or1, q_ds0, q_ds1, q_os0, q_os1, q_as0, q_as1, q_seq, q_rng, q_zip, q_enu, q_rvd, q_asgN, q_asgT, q_par, q_par3, q_tr, q_trN, q_six, q_exp, q_ret, q_ite, q_rai, q_nil, q_cons, b_app, b_ok, b_bad, b_err, p_app, p_bad, l_some, o_var, f_app, t_app, d_sh, d_ow, r_d, r_v, bM_app, a_t, a_f, rs0, rs1, nx_app, o_int, m_int, o_str, m_str, o_bl, m_bl, o_non, m_non, o_glo, m_glo, o_bin, m_bin, o_neg, m_neg, o_cmp, m_cmp, o_chain, m_chain, o_and, m_and, o_or, m_or, o_not, m_not, o_ife, m_ife, o_ix, m_ix, o_cget, m_cget, o_sl, m_sl, o_orv, m_orv, o_dix, m_dix, o_dic, m_dic, o_tup, m_tup, o_lst, m_lst, o_call, m_call, o_bf, m_bf, o_isi, m_isi, o_lc, m_lc, o_lcl, m_lcl, o_pop, m_pop, o_rfd, m_rfd, m_var, k_add, k_sub, k_mul, k_div, k_mod, k_lt, k_le, k_gt, k_ge, k_isn, k_nisn, k_isb, k_nisb, k_rev, k_eqi, k_nei, x1_0, x2_0, x2_1, x3_0, x3_1, x3_2, x4_0, x4_1, x4_2, x4_3, y2_0, y2_1, y3_0, y3_1, y3_2, n_abs, n_int, n_max, n_min, n_len, n_lent, n_tup, n_all, z0, z1, z2, z3, z4, v_app, opV_app, resV_app, ioV_app, set_app, g0, g1, g2, gS, st0, stS, sz0, sz1, sz2, sz3, sz4, sz5, sz6, sz7, sz8, sz9, sz10, sz11, sz12, sz13, sz14, sz15, sz16, sz17, sz18, sz19, sz20, io_is_whole, io_is_fraction, io_divisor_of, io_pen_machine, io_is_joint, io_is_above, io_are_joints, io_is_step, io_is_machine, io__law_cell_at, io__law_state, io__law_take, io__law_divisor, io__law_ratio, io__law_plus, io__law_minus, io__law_times, io__law_over, io__law_small, io__law_above, io__law_four_rods, io__law_same, io_law, con_MOST_STEPS, asgM, callM, callR, ioIx, argSls, argSl, ioSl, callE, putOuts, outsOf, goodArgs, ioAt, startS, Ob.val, List.set_cons_zero, List.set_cons_succ, List.length_cons, List.length_nil, Nat.reduceAdd, Nat.reduceSub, Nat.reduceLT, Nat.sub_self, List.replicate_zero, List.replicate_succ, List.cons_append, List.nil_append, List.append_nil, reduceIte, Option.map_some, Option.map_none, List.not_mem_nil, List.nodup_nil, if_true, if_false, Bool.false_eq_true, eq_self, or_self, or_false, false_or, Bool.not_true, Bool.not_false, List.map_cons, List.map_nil, decide_true, decide_false, t1, t2, e, k_eqb]
theorem same_tup {k : Nat} (h : 2 ≤ k) {x y : D} (hx : ∀ j, k ≤ j + 1 → (calAt g.pr j).run i__law_same [.sh x, .sh x] = .ok (.sh (.bool true)) []) (hy : ∀ j, k ≤ j + 1 → (calAt g.pr j).run i__law_same [.sh y, .sh y] = .ok (.sh (.bool true)) []) :
    (calAt g.pr k).run i__law_same [.sh (.tuple [x, y]), .sh (.tuple [x, y])] = .ok (.sh (.bool true)) [] := by
  obtain ⟨k, rfl⟩ := Nat.exists_eq_add_of_le' (show 1 ≤ k by omega)
  rw [rr k (t := ⟨f__law_same, _, _, _⟩) rfl]
  have rx := hx k (Nat.le_refl _)
  have ry := hy k (Nat.le_refl _)
  have t1 : [Ty.tuple, Ty.list].any (isTy (.tuple [x, y])) = true := rfl
  have t2 : [Ty.tuple].any (isTy (.tuple [x, y])) = true := rfl
  have t3 : [Ty.list].any (isTy (.tuple [x, y])) = false := rfl
  have c : evE (calAt g.pr k) (.lc (.zip (.var 0) (.var 1)) (.tup (.cons (.name 3) (.cons (.name 2) .nil))) (.bl true) (.call 21 (.cons (.var 3) (.cons (.var 2) .nil))) [3, 2]) [.sh (.tuple [x, y]), .sh (.tuple [x, y]), .un, .un] =
      .ok (.ow (.lst [.bool true, .bool true])) [.sh (.tuple [x, y]), .sh (.tuple [x, y]), .un, .un] := by
    rw [q_lc]
    refine lcM_all (f := fun v : D => PyData.tuple [v, v]) (xs := [x, y]) (o := fun _ => some (PyData.bool true)) ?_ (show 2 < sizeLine by decide) ?_ rfl fun v hv => ?_
    · simp only [q_var, q_int, q_str, q_bl, q_non, q_glo, q_bin, q_neg, q_cmp, q_chain, q_and, q_or, q_not, q_ife, q_ix, q_cget, q_dix, q_orv, q_dicm, ky0, ky1, ne_app, q_dic, ne_ok, tr_non, tr_int, tr_lst, q_sl, q_rev, q_tup, q_lst, q_call, n_callN, n_evT, n_tmp, n_isTv, n_isT2, n_isTc, n_aV0, n_aVd, n_aVv, n_hT0, n_hTt, n_hTf, n_scB, n_scI, n_scN, n_scT, n_scL, n_scO, n_let0, n_letD, n_letV, n_letG, q_bf, q_isi, q_lcl, q_app, q_ext, q_pop, q_ins, q_an0, q_an1, q_or0, q_or1, q_ds0, q_ds1, q_os0, q_os1, q_as0, q_as1, q_seq, q_rng, q_zip, q_enu, q_rvd, q_asgN, q_asgT, q_par, q_par3, q_tr, q_trN, q_six, q_exp, q_ret, q_ite, q_rai, q_nil, q_cons, b_app, b_ok, b_bad, b_err, p_app, p_bad, l_some, o_var, f_app, t_app, d_sh, d_ow, r_d, r_v, bM_app, a_t, a_f, rs0, rs1, nx_app, o_int, m_int, o_str, m_str, o_bl, m_bl, o_non, m_non, o_glo, m_glo, o_bin, m_bin, o_neg, m_neg, o_cmp, m_cmp, o_chain, m_chain, o_and, m_and, o_or, m_or, o_not, m_not, o_ife, m_ife, o_ix, m_ix, o_cget, m_cget, o_sl, m_sl, o_orv, m_orv, o_dix, m_dix, o_dic, m_dic, o_tup, m_tup, o_lst, m_lst, o_call, m_call, o_bf, m_bf, o_isi, m_isi, o_lc, m_lc, o_lcl, m_lcl, o_pop, m_pop, o_rfd, m_rfd, m_var, k_add, k_sub, k_mul, k_div, k_mod, k_lt, k_le, k_gt, k_ge, k_isn, k_nisn, k_isb, k_nisb, k_rev, k_eqi, k_nei, x1_0, x2_0, x2_1, x3_0, x3_1, x3_2, x4_0, x4_1, x4_2, x4_3, y2_0, y2_1, y3_0, y3_1, y3_2, n_abs, n_int, n_max, n_min, n_len, n_lent, n_tup, n_all, z0, z1, z2, z3, z4, v_app, opV_app, resV_app, ioV_app, set_app, g0, g1, g2, gS, st0, stS, sz0, sz1, sz2, sz3, sz4, sz5, sz6, sz7, sz8, sz9, sz10, sz11, sz12, sz13, sz14, sz15, sz16, sz17, sz18, sz19, sz20, io_is_whole, io_is_fraction, io_divisor_of, io_pen_machine, io_is_joint, io_is_above, io_are_joints, io_is_step, io_is_machine, io__law_cell_at, io__law_state, io__law_take, io__law_divisor, io__law_ratio, io__law_plus, io__law_minus, io__law_times, io__law_over, io__law_small, io__law_above, io__law_four_rods, io__law_same, io_law, con_MOST_STEPS, asgM, callM, callR, ioIx, argSls, argSl, ioSl, callE, putOuts, outsOf, goodArgs, ioAt, startS, Ob.val, List.set_cons_zero, List.set_cons_succ, List.length_cons, List.length_nil, Nat.reduceAdd, Nat.reduceSub, Nat.reduceLT, Nat.sub_self, List.replicate_zero, List.replicate_succ, List.cons_append, List.nil_append, List.append_nil, reduceIte, Option.map_some, Option.map_none, List.not_mem_nil, List.nodup_nil, if_true, if_false, Bool.false_eq_true, eq_self, or_self, or_false, false_or, Bool.not_true, Bool.not_false, List.map_cons, List.map_nil, decide_true, decide_false, zipD] <;> rfl
    · intro i hi
      simp at hi
      show i < 4
      omega
    · have e : wipeS [.sh (.tuple [x, y]), .sh (.tuple [x, y]), .un, .un] [3, 2] = [.sh (.tuple [x, y]), .sh (.tuple [x, y]), .un, .un] := rfl
      rw [e]
      refine ⟨[.sh (.tuple [x, y]), .sh (.tuple [x, y]), .sh v, .sh v], ?_, rfl⟩
      have rv : (calAt g.pr k).run 21 [.sh v, .sh v] = .ok (.sh (.bool true)) [] := by
        simp only [List.mem_cons, List.not_mem_nil, or_false] at hv
        rcases hv with rfl | rfl
        · exact rx
        · exact ry
      simp (decide := true) only [q_var, q_int, q_str, q_bl, q_non, q_glo, q_bin, q_neg, q_cmp, q_chain, q_and, q_or, q_not, q_ife, q_ix, q_cget, q_dix, q_orv, q_dicm, ky0, ky1, ne_app, q_dic, ne_ok, tr_non, tr_int, tr_lst, q_sl, q_rev, q_tup, q_lst, q_call, n_callN, n_evT, n_tmp, n_isTv, n_isT2, n_isTc, n_aV0, n_aVd, n_aVv, n_hT0, n_hTt, n_hTf, n_scB, n_scI, n_scN, n_scT, n_scL, n_scO, n_let0, n_letD, n_letV, n_letG, q_bf, q_isi, q_lcl, q_app, q_ext, q_pop, q_ins, q_an0, q_an1, q_or0, q_or1, q_ds0, q_ds1, q_os0, q_os1, q_as0, q_as1, q_seq, q_rng, q_zip, q_enu, q_rvd, q_asgN, q_asgT, q_par, q_par3, q_tr, q_trN, q_six, q_exp, q_ret, q_ite, q_rai, q_nil, q_cons, b_app, b_ok, b_bad, b_err, p_app, p_bad, l_some, o_var, f_app, t_app, d_sh, d_ow, r_d, r_v, bM_app, a_t, a_f, rs0, rs1, nx_app, o_int, m_int, o_str, m_str, o_bl, m_bl, o_non, m_non, o_glo, m_glo, o_bin, m_bin, o_neg, m_neg, o_cmp, m_cmp, o_chain, m_chain, o_and, m_and, o_or, m_or, o_not, m_not, o_ife, m_ife, o_ix, m_ix, o_cget, m_cget, o_sl, m_sl, o_orv, m_orv, o_dix, m_dix, o_dic, m_dic, o_tup, m_tup, o_lst, m_lst, o_call, m_call, o_bf, m_bf, o_isi, m_isi, o_lc, m_lc, o_lcl, m_lcl, o_pop, m_pop, o_rfd, m_rfd, m_var, k_add, k_sub, k_mul, k_div, k_mod, k_lt, k_le, k_gt, k_ge, k_isn, k_nisn, k_isb, k_nisb, k_rev, k_eqi, k_nei, x1_0, x2_0, x2_1, x3_0, x3_1, x3_2, x4_0, x4_1, x4_2, x4_3, y2_0, y2_1, y3_0, y3_1, y3_2, n_abs, n_int, n_max, n_min, n_len, n_lent, n_tup, n_all, z0, z1, z2, z3, z4, v_app, opV_app, resV_app, ioV_app, set_app, g0, g1, g2, gS, st0, stS, sz0, sz1, sz2, sz3, sz4, sz5, sz6, sz7, sz8, sz9, sz10, sz11, sz12, sz13, sz14, sz15, sz16, sz17, sz18, sz19, sz20, io_is_whole, io_is_fraction, io_divisor_of, io_pen_machine, io_is_joint, io_is_above, io_are_joints, io_is_step, io_is_machine, io__law_cell_at, io__law_state, io__law_take, io__law_divisor, io__law_ratio, io__law_plus, io__law_minus, io__law_times, io__law_over, io__law_small, io__law_above, io__law_four_rods, io__law_same, io_law, con_MOST_STEPS, asgM, callM, callR, ioIx, argSls, argSl, ioSl, callE, putOuts, outsOf, goodArgs, ioAt, startS, Ob.val, List.set_cons_zero, List.set_cons_succ, List.length_cons, List.length_nil, Nat.reduceAdd, Nat.reduceSub, Nat.reduceLT, Nat.sub_self, List.replicate_zero, List.replicate_succ, List.cons_append, List.nil_append, List.append_nil, reduceIte, Option.map_some, Option.map_none, List.not_mem_nil, List.nodup_nil, if_true, if_false, Bool.false_eq_true, eq_self, or_self, or_false, false_or, Bool.not_true, Bool.not_false, List.map_cons, List.map_nil, decide_true, decide_false, q_pt, q_pt2, rv]
  have ab : allB [.bool true, .bool true] = some true := rfl
  simp (decide := true) only [runFd, f__law_same, q_var, q_int, q_str, q_bl, q_non, q_glo, q_bin, q_neg, q_cmp, q_chain, q_and, q_or, q_not, q_ife, q_ix, q_cget, q_dix, q_orv, q_dicm, ky0, ky1, ne_app, q_dic, ne_ok, tr_non, tr_int, tr_lst, q_sl, q_rev, q_tup, q_lst, q_call, n_callN, n_evT, n_tmp, n_isTv, n_isT2, n_isTc, n_aV0, n_aVd, n_aVv, n_hT0, n_hTt, n_hTf, n_scB, n_scI, n_scN, n_scT, n_scL, n_scO, n_let0, n_letD, n_letV, n_letG, q_bf, q_isi, q_lcl, q_app, q_ext, q_pop, q_ins, q_an0, q_an1, q_or0, q_or1, q_ds0, q_ds1, q_os0, q_os1, q_as0, q_as1, q_seq, q_rng, q_zip, q_enu, q_rvd, q_asgN, q_asgT, q_par, q_par3, q_tr, q_trN, q_six, q_exp, q_ret, q_ite, q_rai, q_nil, q_cons, b_app, b_ok, b_bad, b_err, p_app, p_bad, l_some, o_var, f_app, t_app, d_sh, d_ow, r_d, r_v, bM_app, a_t, a_f, rs0, rs1, nx_app, o_int, m_int, o_str, m_str, o_bl, m_bl, o_non, m_non, o_glo, m_glo, o_bin, m_bin, o_neg, m_neg, o_cmp, m_cmp, o_chain, m_chain, o_and, m_and, o_or, m_or, o_not, m_not, o_ife, m_ife, o_ix, m_ix, o_cget, m_cget, o_sl, m_sl, o_orv, m_orv, o_dix, m_dix, o_dic, m_dic, o_tup, m_tup, o_lst, m_lst, o_call, m_call, o_bf, m_bf, o_isi, m_isi, o_lc, m_lc, o_lcl, m_lcl, o_pop, m_pop, o_rfd, m_rfd, m_var, k_add, k_sub, k_mul, k_div, k_mod, k_lt, k_le, k_gt, k_ge, k_isn, k_nisn, k_isb, k_nisb, k_rev, k_eqi, k_nei, x1_0, x2_0, x2_1, x3_0, x3_1, x3_2, x4_0, x4_1, x4_2, x4_3, y2_0, y2_1, y3_0, y3_1, y3_2, n_abs, n_int, n_max, n_min, n_len, n_lent, n_tup, n_all, z0, z1, z2, z3, z4, v_app, opV_app, resV_app, ioV_app, set_app, g0, g1, g2, gS, st0, stS, sz0, sz1, sz2, sz3, sz4, sz5, sz6, sz7, sz8, sz9, sz10, sz11, sz12, sz13, sz14, sz15, sz16, sz17, sz18, sz19, sz20, io_is_whole, io_is_fraction, io_divisor_of, io_pen_machine, io_is_joint, io_is_above, io_are_joints, io_is_step, io_is_machine, io__law_cell_at, io__law_state, io__law_take, io__law_divisor, io__law_ratio, io__law_plus, io__law_minus, io__law_times, io__law_over, io__law_small, io__law_above, io__law_four_rods, io__law_same, io_law, con_MOST_STEPS, asgM, callM, callR, ioIx, argSls, argSl, ioSl, callE, putOuts, outsOf, goodArgs, ioAt, startS, Ob.val, List.set_cons_zero, List.set_cons_succ, List.length_cons, List.length_nil, Nat.reduceAdd, Nat.reduceSub, Nat.reduceLT, Nat.sub_self, List.replicate_zero, List.replicate_succ, List.cons_append, List.nil_append, List.append_nil, reduceIte, Option.map_some, Option.map_none, List.not_mem_nil, List.nodup_nil, if_true, if_false, Bool.false_eq_true, eq_self, or_self, or_false, false_or, Bool.not_true, Bool.not_false, List.map_cons, List.map_nil, decide_true, decide_false, t1, t2, t3, k_neb, n_lent, c, n_all, ab]
theorem same_fr {k : Nat} (h : 2 ≤ k) (q : Rat) : (calAt g.pr k).run i__law_same [.sh (fr q), .sh (fr q)] = .ok (.sh (.bool true)) [] :=
  same_tup h (fun j hj => same_int (by omega) _) fun j hj => same_int (by omega) _
theorem same_rn {k : Nat} (h : 3 ≤ k) (d : Rat) (p : Nu) : (calAt g.pr k).run i__law_same [.sh (rn d p), .sh (rn d p)] = .ok (.sh (.bool true)) [] :=
  same_tup (by omega) (fun j hj => same_fr (by omega) _) fun j hj => same_fr (by omega) _
theorem same_pd {k : Nat} (h : 4 ≤ k) (d : Rat) (p : Po) : (calAt g.pr k).run i__law_same [.sh (pd d p), .sh (pd d p)] = .ok (.sh (.bool true)) [] :=
  same_tup (by omega) (fun j hj => same_rn (by omega) _ _) fun j hj => same_rn (by omega) _ _
end Lw
set_option Elab.async false
set_option linter.all false
set_option maxRecDepth 100000
set_option maxHeartbeats 400000
/-! Signs of numbers a + b * root d. -/
namespace Lw
open PySem Hg
/-- no fraction's square -/
def Ns (d : Rat) : Prop := ∀ r : Rat, r * r ≠ d
theorem Ns.of {u : Nat} (h : ∀ n : Nat, n * n ≠ u) : Ns (u : Rat) := fun r e => by
  obtain ⟨e1, e2⟩ := sq_num r
  have h2 : (r * r).num = (u : Int) := by rw [e] <;> rfl
  rw [e1] at h2
  apply h r.num.natAbs
  have := congrArg Int.natAbs h2
  rw [Int.natAbs_mul] at this
  simpa using this
def sgi (x : Int) : Int := (if 0 < x then 1 else 0) - (if x < 0 then 1 else 0)
theorem sgi_pos {x : Int} (h : 0 < x) : sgi x = 1 := by
  unfold sgi
  rw [if_pos h, if_neg (by omega)]
  rfl
theorem sgi_neg {x : Int} (h : x < 0) : sgi x = -1 := by
  unfold sgi
  rw [if_pos h, if_neg (by omega)]
  rfl
theorem sgi_zero : sgi 0 = 0 := rfl
theorem sg_zero : sg 0 = 0 := rfl
theorem sg_cases (a : Rat) : (0 < a ∧ sg a = 1) ∨ (a = 0 ∧ sg a = 0) ∨ (a < 0 ∧ sg a = -1) := by
  by_cases z : a = 0
  · exact .inr (.inl ⟨z, by rw [z] <;> rfl⟩)
  · rcases ne_cases z with h | h
    · exact .inl ⟨h, sg_pos h⟩
    · exact .inr (.inr ⟨h, sg_neg h⟩)
theorem sg_und {d b : Rat} (u : 0 < d) : sg (b * ab b * d) = sg b := by
  rcases sg_cases b with ⟨h, e⟩ | ⟨h, e⟩ | ⟨h, e⟩
  · rw [e, sg_pos (un_pos u h)]
  · rw [h]
    have z : (0 : Rat) * ab 0 * d = 0 := by grind
    rw [z]
  · rw [e, sg_neg (un_neg u h)]
/-- the sign of a + b * root d -/
def rs (d : Rat) (p : Nu) : Int := if sg p.1 = sg p.2 ∨ sg p.2 = 0 then sg p.1 else if sg p.1 = 0 ∨ p.1 * p.1 < p.2 * p.2 * d then sg p.2 else sg p.1
theorem sg_lt {a : Rat} : decide (sg a < 0) = decide (a < 0) := by
  rcases sg_cases a with ⟨h, e⟩ | ⟨h, e⟩ | ⟨h, e⟩
  · rw [e]
    exact decide_eq_decide.mpr ⟨fun z => by omega, fun z => by grind⟩
  · rw [e]
    exact decide_eq_decide.mpr ⟨fun z => by omega, fun z => by grind⟩
  · rw [e]
    exact decide_eq_decide.mpr ⟨fun z => h, fun z => by decide⟩
/-! ### the law's look -/
def tp (p : Nu) : Int := p.1.num * p.2.den
def mr (p : Nu) : Int := p.2.num * p.1.den
def ls (u : Nat) (p : Nu) : Int := if (0 ≤ tp p ∧ 0 ≤ mr p) ∨ (tp p ≤ 0 ∧ mr p ≤ 0) then sgi (tp p + mr p) else if mr p * mr p * (u : Int) < tp p * tp p then sgi (tp p) else sgi (mr p)
theorem num_sg (a : Rat) {k : Int} (hk : 0 < k) : sgi (a.num * k) = sg a := by
  rcases Int.lt_trichotomy a.num 0 with z | z | z
  · rw [sgi_neg (Int.mul_neg_of_neg_of_pos z hk), sg_neg (num_neg_iff.mp z)]
  · rw [z, Int.zero_mul, Rat.num_eq_zero.mp z]
    rfl
  · have h : 0 < a := by
      have h1 : 0 ≤ a := Rat.num_nonneg.mp (by omega)
      have h2 : a ≠ 0 := fun e => by rw [e] at z; exact absurd z (by decide)
      grind
    rw [sgi_pos (Int.mul_pos z hk), sg_pos h]
theorem den_pos (a : Rat) : (0 : Int) < (a.den : Int) := by
  have := a.den_nz
  omega
theorem mul_den (a : Rat) : a * (a.den : Rat) = ((a.num : Int) : Rat) := by
  have d : (0 : Rat) < (a.den : Rat) := by
    have z : ((0 : Nat) : Rat) < (a.den : Rat) := Rat.natCast_lt_natCast.mpr (Nat.pos_of_ne_zero a.den_nz)
    exact z
  have z := Rat.num_divInt_den a
  rw [Rat.divInt_eq_div] at z
  have z2 : ((a.num : Int) : Rat) / (a.den : Rat) = a := z
  grind
theorem sq_lt (p : Nu) (u : Nat) : p.2 * p.2 * (u : Rat) < p.1 * p.1 ↔ mr p * mr p * (u : Int) < tp p * tp p := by
  have d1 : (0 : Rat) < (p.1.den : Rat) := by
    have z : ((0 : Nat) : Rat) < (p.1.den : Rat) := Rat.natCast_lt_natCast.mpr (Nat.pos_of_ne_zero p.1.den_nz)
    exact z
  have d2 : (0 : Rat) < (p.2.den : Rat) := by
    have z : ((0 : Nat) : Rat) < (p.2.den : Rat) := Rat.natCast_lt_natCast.mpr (Nat.pos_of_ne_zero p.2.den_nz)
    exact z
  have e1 := mul_den p.1
  have e2 := mul_den p.2
  have k : (0 : Rat) < (p.1.den : Rat) * (p.2.den : Rat) * ((p.1.den : Rat) * (p.2.den : Rat)) := Rat.mul_pos (Rat.mul_pos d1 d2) (Rat.mul_pos d1 d2)
  rw [← Rat.mul_lt_mul_right k, ← Rat.intCast_lt_intCast]
  have l : p.2 * p.2 * (u : Rat) * ((p.1.den : Rat) * (p.2.den : Rat) * ((p.1.den : Rat) * (p.2.den : Rat))) = ((mr p * mr p * (u : Int) : Int) : Rat) := by
    unfold mr
    rw [Rat.intCast_mul, Rat.intCast_mul, Rat.intCast_mul]
    show _ = ((p.2.num : Int) : Rat) * (p.1.den : Rat) * (((p.2.num : Int) : Rat) * (p.1.den : Rat)) * (u : Rat)
    rw [← e2]
    grind
  have r : p.1 * p.1 * ((p.1.den : Rat) * (p.2.den : Rat) * ((p.1.den : Rat) * (p.2.den : Rat))) = ((tp p * tp p : Int) : Rat) := by
    unfold tp
    rw [Rat.intCast_mul, Rat.intCast_mul]
    show _ = ((p.1.num : Int) : Rat) * (p.2.den : Rat) * (((p.1.num : Int) : Rat) * (p.2.den : Rat))
    rw [← e1]
    grind
  rw [l, r]
theorem ls_rs {u : Nat} (ns : Ns (u : Rat)) (p : Nu) : ls u p = rs (u : Rat) p := by
  have st : sgi (tp p) = sg p.1 := num_sg p.1 (den_pos p.2)
  have sm : sgi (mr p) = sg p.2 := num_sg p.2 (den_pos p.1)
  have key := sq_lt p u
  have tri : ∀ x : Int, (0 < x ∧ sgi x = 1) ∨ (x = 0 ∧ sgi x = 0) ∨ (x < 0 ∧ sgi x = -1) := fun x => by
    rcases Int.lt_trichotomy x 0 with z | z | z
    · exact .inr (.inr ⟨z, sgi_neg z⟩)
    · exact .inr (.inl ⟨z, by rw [z] <;> rfl⟩)
    · exact .inl ⟨z, sgi_pos z⟩
  have ne : p.2 ≠ 0 → p.1 * p.1 ≠ p.2 * p.2 * (u : Rat) := fun h e => ns (p.1 / p.2) (by grind)
  unfold ls rs
  rw [← st, ← sm]
  have dec : sgi (mr p) ≠ 0 → (p.1 * p.1 < p.2 * p.2 * (u : Rat) ↔ ¬ mr p * mr p * (u : Int) < tp p * tp p) := fun h => by
    rw [← key]
    have h2 : p.2 ≠ 0 := fun e => h (by rw [sm, e] <;> rfl)
    have := ne h2
    constructor
    · intro z; grind
    · intro z; grind
  rcases tri (tp p) with ⟨t1, t2⟩ | ⟨t1, t2⟩ | ⟨t1, t2⟩ <;> rcases tri (mr p) with ⟨m1, m2⟩ | ⟨m1, m2⟩ | ⟨m1, m2⟩
  · rw [if_pos (.inl ⟨by omega, by omega⟩), if_pos (.inl (by rw [t2, m2])), t2, sgi_pos (by omega)]
  · rw [if_pos (.inl ⟨by omega, by omega⟩), if_pos (.inr m2), t2, sgi_pos (by omega)]
  · have hA : ¬ ((0 ≤ tp p ∧ 0 ≤ mr p) ∨ (tp p ≤ 0 ∧ mr p ≤ 0)) := by omega
    have hC : ¬ (sgi (tp p) = sgi (mr p) ∨ sgi (mr p) = 0) := by rw [t2, m2]; decide
    rw [if_neg hA, if_neg hC]
    by_cases c : mr p * mr p * (u : Int) < tp p * tp p
    · rw [if_pos c, if_neg (fun z => z.elim (by rw [t2]; decide) fun z => (dec (by rw [m2]; decide)).mp z c)]
    · rw [if_neg c, if_pos (.inr ((dec (by rw [m2]; decide)).mpr c))]
  · rw [if_pos (.inl ⟨by omega, by omega⟩), if_neg (by rw [t2, m2]; decide), if_pos (.inl t2), m2, sgi_pos (by omega)]
  · rw [if_pos (.inl ⟨by omega, by omega⟩), if_pos (.inr m2), t2, t1, m1]
    rfl
  · rw [if_pos (.inr ⟨by omega, by omega⟩), if_neg (by rw [t2, m2]; decide), if_pos (.inl t2), m2, sgi_neg (by omega)]
  · have hA : ¬ ((0 ≤ tp p ∧ 0 ≤ mr p) ∨ (tp p ≤ 0 ∧ mr p ≤ 0)) := by omega
    have hC : ¬ (sgi (tp p) = sgi (mr p) ∨ sgi (mr p) = 0) := by rw [t2, m2]; decide
    rw [if_neg hA, if_neg hC]
    by_cases c : mr p * mr p * (u : Int) < tp p * tp p
    · rw [if_pos c, if_neg (fun z => z.elim (by rw [t2]; decide) fun z => (dec (by rw [m2]; decide)).mp z c)]
    · rw [if_neg c, if_pos (.inr ((dec (by rw [m2]; decide)).mpr c))]
  · rw [if_pos (.inr ⟨by omega, by omega⟩), if_pos (.inr m2), t2, sgi_neg (by omega)]
  · rw [if_pos (.inr ⟨by omega, by omega⟩), if_pos (.inl (by rw [t2, m2])), t2, sgi_neg (by omega)]
end Lw
set_option Elab.async false
set_option linter.all false
set_option maxRecDepth 100000
set_option maxHeartbeats 400000
/-! Signs of products. -/
namespace Lw
open PySem Hg
theorem sg_mul (a b : Rat) : sg (a * b) = sg a * sg b := by
  rcases sg_cases a with ⟨h, e⟩ | ⟨h, e⟩ | ⟨h, e⟩ <;> rcases sg_cases b with ⟨h2, e2⟩ | ⟨h2, e2⟩ | ⟨h2, e2⟩
  · rw [e, e2, sg_pos (Rat.mul_pos h h2)] <;> rfl
  · rw [e, e2, h2, Rat.mul_zero] <;> rfl
  · have z := Rat.mul_pos h (show 0 < -b by grind)
    rw [e, e2, sg_neg (show a * b < 0 by grind)] <;> rfl
  · rw [e, e2, h, Rat.zero_mul] <;> rfl
  · rw [e, e2, h, Rat.zero_mul] <;> rfl
  · rw [e, e2, h, Rat.zero_mul] <;> rfl
  · have z := Rat.mul_pos (show 0 < -a by grind) h2
    rw [e, e2, sg_neg (show a * b < 0 by grind)] <;> rfl
  · rw [e, e2, h2, Rat.mul_zero] <;> rfl
  · have z := Rat.mul_pos (show 0 < -a by grind) (show 0 < -b by grind)
    rw [e, e2, sg_pos (show 0 < a * b by grind)] <;> rfl
theorem sg_neg' (a : Rat) : sg (-a) = -sg a := by
  have h := sg_mul (-1) a
  rw [show (-1 : Rat) * a = -a by grind] at h
  rw [h, show sg (-1) = -1 from rfl]
  omega
/-- the greater square tells -/
theorem sg_add {x y : Rat} (h : y * y < x * x) : sg (x + y) = sg x := by
  rcases sg_cases x with ⟨hx, e⟩ | ⟨hx, e⟩ | ⟨hx, e⟩
  · rw [e, sg_pos]
    rcases sg_cases (x + y) with ⟨z, _⟩ | ⟨z, _⟩ | ⟨z, _⟩
    · exact z
    · exact absurd h (by
        have : y = -x := by grind
        rw [this]
        grind)
    · have w := Rat.mul_pos (show 0 < -(x + y) by grind) (show 0 < x - y by grind)
      grind
  · rw [hx] at h
    have := ab_sq y
    have z : 0 ≤ y * y := by rw [← this]; exact Rat.mul_nonneg (ab_nn y) (ab_nn y)
    grind
  · rw [e, sg_neg]
    rcases sg_cases (x + y) with ⟨z, _⟩ | ⟨z, _⟩ | ⟨z, _⟩
    · have w := Rat.mul_pos z (show 0 < -(x - y) by grind)
      grind
    · exact absurd h (by
        have : y = -x := by grind
        rw [this]
        grind)
    · exact z
/-- the number times its fellow -/
def nm (d : Rat) (p : Nu) : Rat := p.1 * p.1 - p.2 * p.2 * d
theorem rs_nm {d : Rat} (u : 0 < d) (p : Nu) : (0 < nm d p → rs d p = sg p.1) ∧ (nm d p < 0 → rs d p = sg p.2) := by
  have sqn : ∀ x : Rat, 0 ≤ x * x := fun x => by rw [← ab_sq x]; exact Rat.mul_nonneg (ab_nn x) (ab_nn x)
  have z0 : ∀ {x : Rat}, sg x = 0 → x = 0 := fun {x} h => by
    rcases sg_cases x with ⟨_, e⟩ | ⟨h, _⟩ | ⟨_, e⟩
    · rw [e] at h; exact absurd h (by decide)
    · exact h
    · rw [e] at h; exact absurd h (by decide)
  unfold nm rs
  refine ⟨fun h => ?_, fun h => ?_⟩
  · by_cases c : sg p.1 = sg p.2 ∨ sg p.2 = 0
    · rw [if_pos c]
    · rw [if_neg c]
      have c2 : ¬ (sg p.1 = 0 ∨ p.1 * p.1 < p.2 * p.2 * d) := by
        rintro (z | z)
        · have := z0 z
          rw [this] at h
          have w := Rat.mul_nonneg (sqn p.2) (Rat.le_of_lt u)
          grind
        · grind
      rw [if_neg c2]
  · by_cases c : sg p.1 = sg p.2 ∨ sg p.2 = 0
    · rw [if_pos c]
      rcases c with c | c
      · exact c
      · have := z0 c
        rw [this] at h
        have w := sqn p.1
        grind
    · rw [if_neg c, if_pos (.inr (by grind))]
theorem nm_pt (d : Rat) (p q : Nu) : nm d (pt d p q) = nm d p * nm d q := by
  unfold nm pt
  grind
theorem nm_zero {d : Rat} (ns : Ns d) {p : Nu} (h : nm d p = 0) : p = (0, 0) := by
  unfold nm at h
  by_cases c : p.2 = 0
  · rw [c] at h
    have : p.1 = 0 := by
      rcases Rat.mul_eq_zero.mp (show p.1 * p.1 = 0 by grind) with z | z <;> exact z
    exact Prod.ext this c
  · exact absurd (show p.1 / p.2 * (p.1 / p.2) = d by grind) (ns _)
theorem rs_zero (d : Rat) : rs d (0, 0) = 0 := by
  unfold rs
  rw [if_pos (.inl rfl)]
  rfl
theorem cross {X Y X' Y' : Rat} (y0 : 0 ≤ Y) (y0' : 0 ≤ Y') (h : Y < X) (h' : Y' < X') : Y * Y' < X * X' := by
  have a := Rat.mul_pos (show 0 < X by grind) (show 0 < X' - Y' by grind)
  have b := Rat.mul_nonneg y0' (show 0 ≤ X - Y by grind)
  grind
theorem sq_nn (x : Rat) : 0 ≤ x * x := by
  rw [← ab_sq x]
  exact Rat.mul_nonneg (ab_nn x) (ab_nn x)
theorem rs_mul {d : Rat} (u : 0 < d) (ns : Ns d) (p q : Nu) : rs d (pt d p q) = rs d p * rs d q := by
  by_cases zp : nm d p = 0
  · rw [nm_zero ns zp, rs_zero, Int.zero_mul]
    have e : pt d (0, 0) q = (0, 0) := by
      unfold pt
      refine Prod.ext ?_ ?_
      · show 0 * q.1 + 0 * q.2 * d = 0
        grind
      · show 0 * q.2 + 0 * q.1 = 0
        grind
    rw [e, rs_zero]
  by_cases zq : nm d q = 0
  · rw [nm_zero ns zq, rs_zero, Int.mul_zero]
    have e : pt d p (0, 0) = (0, 0) := by
      unfold pt
      refine Prod.ext ?_ ?_
      · show p.1 * 0 + p.2 * 0 * d = 0
        grind
      · show p.1 * 0 + p.2 * 0 = 0
        grind
    rw [e, rs_zero]
  have N := nm_pt d p q
  have sd : sg d = 1 := sg_pos u
  rcases ne_cases zp with hp | hp <;> rcases ne_cases zq with hq | hq
  · have h := Rat.mul_pos hp hq
    rw [(rs_nm u p).1 hp, (rs_nm u q).1 hq, (rs_nm u _).1 (by rw [N]; exact h)]
    show sg (p.1 * q.1 + p.2 * q.2 * d) = _
    rw [sg_add ?_, sg_mul]
    unfold nm at hp hq
    have z := cross (Rat.mul_nonneg (sq_nn p.2) (Rat.le_of_lt u)) (Rat.mul_nonneg (sq_nn q.2) (Rat.le_of_lt u)) (show p.2 * p.2 * d < p.1 * p.1 by grind) (show q.2 * q.2 * d < q.1 * q.1 by grind)
    grind
  · have h := Rat.mul_pos hp (show 0 < -nm d q by grind)
    rw [(rs_nm u p).1 hp, (rs_nm u q).2 hq, (rs_nm u _).2 (by rw [N]; grind)]
    show sg (p.1 * q.2 + p.2 * q.1) = _
    rw [sg_add ?_, sg_mul]
    unfold nm at hp hq
    have z := cross (Rat.mul_nonneg (sq_nn p.2) (Rat.le_of_lt u)) (sq_nn q.1) (show p.2 * p.2 * d < p.1 * p.1 by grind) (show q.1 * q.1 < q.2 * q.2 * d by grind)
    exact Rat.lt_of_mul_lt_mul_right (c := d) (by grind) (Rat.le_of_lt u)
  · have h := Rat.mul_pos (show 0 < -nm d p by grind) hq
    rw [(rs_nm u p).2 hp, (rs_nm u q).1 hq, (rs_nm u _).2 (by rw [N]; grind)]
    show sg (p.1 * q.2 + p.2 * q.1) = _
    rw [Rat.add_comm, sg_add ?_, sg_mul]
    unfold nm at hp hq
    have z := cross (sq_nn p.1) (Rat.mul_nonneg (sq_nn q.2) (Rat.le_of_lt u)) (show p.1 * p.1 < p.2 * p.2 * d by grind) (show q.2 * q.2 * d < q.1 * q.1 by grind)
    exact Rat.lt_of_mul_lt_mul_right (c := d) (by grind) (Rat.le_of_lt u)
  · have h := Rat.mul_pos (show 0 < -nm d p by grind) (show 0 < -nm d q by grind)
    rw [(rs_nm u p).2 hp, (rs_nm u q).2 hq, (rs_nm u _).1 (by rw [N]; grind)]
    show sg (p.1 * q.1 + p.2 * q.2 * d) = _
    rw [Rat.add_comm, sg_add ?_, sg_mul, sg_mul, sd, Int.mul_one]
    unfold nm at hp hq
    have z := cross (sq_nn p.1) (sq_nn q.1) (show p.1 * p.1 < p.2 * p.2 * d by grind) (show q.1 * q.1 < q.2 * q.2 * d by grind)
    grind
theorem rs_neg (d : Rat) (u : 0 < d) (ns : Ns d) (p : Nu) : rs d (pn p) = -rs d p := by
  have h := rs_mul u ns (-1, 0) p
  have e : pt d (-1, 0) p = pn p := by
    unfold pt pn
    refine Prod.ext ?_ ?_
    · show -1 * p.1 + 0 * p.2 * d = -p.1
      grind
    · show -1 * p.2 + 0 * p.1 = -p.2
      grind
  have e1 : rs d (-1, 0) = -1 := by
    unfold rs
    rw [if_pos (.inr rfl)]
    rfl
  rw [e, e1] at h
  omega
end Lw
set_option Elab.async false
set_option linter.all false
set_option maxRecDepth 100000
set_option maxHeartbeats 400000
/-! Root numbers: made, known, quotients. -/
namespace Lw
open PySem Hg
theorem ns_und {d b : Rat} (ns : Ns d) (hb : b ≠ 0) : Ns (b * b * d) := fun r e => ns (r / b) (by grind)
theorem r_is_whole {k : Nat} (h : 1 ≤ k) (i : Int) : (calAt g.pr k).run i_is_whole [.sh (.int i)] = .ok (.sh (.bool true)) [] := by
  obtain ⟨k, rfl⟩ := Nat.exists_eq_add_of_le' (show 1 ≤ k by omega)
  rw [rr k (t := ⟨f_is_whole, _, _, _⟩) rfl]
  have t1 : [Ty.int].any (isTy (.int i)) = true := rfl
  have t2 : [Ty.bool].any (isTy (.int i)) = false := rfl
  simp only [runFd, f_is_whole, q_var, q_int, q_str, q_bl, q_non, q_glo, q_bin, q_neg, q_cmp, q_chain, q_and, q_or, q_not, q_ife, q_ix, q_cget, q_dix, q_orv, q_dicm, ky0, ky1, ne_app, q_dic, ne_ok, tr_non, tr_int, tr_lst, q_sl, q_rev, q_tup, q_lst, q_call, n_callN, n_evT, n_tmp, n_isTv, n_isT2, n_isTc, n_aV0, n_aVd, n_aVv, n_hT0, n_hTt, n_hTf, n_scB, n_scI, n_scN, n_scT, n_scL, n_scO, n_let0, n_letD, n_letV, n_letG, q_bf, q_isi, q_lcl, q_app, q_ext, q_pop, q_ins, q_an0, q_an1, q_or0, q_or1, q_ds0, q_ds1, q_os0, q_os1, q_as0, q_as1, q_seq, q_rng, q_zip, q_enu, q_rvd, q_asgN, q_asgT, q_par, q_par3, q_tr, q_trN, q_six, q_exp, q_ret, q_ite, q_rai, q_nil, q_cons, b_app, b_ok, b_bad, b_err, p_app, p_bad, l_some, o_var, f_app, t_app, d_sh, d_ow, r_d, r_v, bM_app, a_t, a_f, rs0, rs1, nx_app, o_int, m_int, o_str, m_str, o_bl, m_bl, o_non, m_non, o_glo, m_glo, o_bin, m_bin, o_neg, m_neg, o_cmp, m_cmp, o_chain, m_chain, o_and, m_and, o_or, m_or, o_not, m_not, o_ife, m_ife, o_ix, m_ix, o_cget, m_cget, o_sl, m_sl, o_orv, m_orv, o_dix, m_dix, o_dic, m_dic, o_tup, m_tup, o_lst, m_lst, o_call, m_call, o_bf, m_bf, o_isi, m_isi, o_lc, m_lc, o_lcl, m_lcl, o_pop, m_pop, o_rfd, m_rfd, m_var, k_add, k_sub, k_mul, k_div, k_mod, k_lt, k_le, k_gt, k_ge, k_isn, k_nisn, k_isb, k_nisb, k_rev, k_eqi, k_nei, x1_0, x2_0, x2_1, x3_0, x3_1, x3_2, x4_0, x4_1, x4_2, x4_3, y2_0, y2_1, y3_0, y3_1, y3_2, n_abs, n_int, n_max, n_min, n_len, n_lent, n_tup, n_all, z0, z1, z2, z3, z4, v_app, opV_app, resV_app, ioV_app, set_app, g0, g1, g2, gS, st0, stS, sz0, sz1, sz2, sz3, sz4, sz5, sz6, sz7, sz8, sz9, sz10, sz11, sz12, sz13, sz14, sz15, sz16, sz17, sz18, sz19, sz20, io_is_whole, io_is_fraction, io_divisor_of, io_pen_machine, io_is_joint, io_is_above, io_are_joints, io_is_step, io_is_machine, io__law_cell_at, io__law_state, io__law_take, io__law_divisor, io__law_ratio, io__law_plus, io__law_minus, io__law_times, io__law_over, io__law_small, io__law_above, io__law_four_rods, io__law_same, io_law, con_MOST_STEPS, asgM, callM, callR, ioIx, argSls, argSl, ioSl, callE, putOuts, outsOf, goodArgs, ioAt, startS, Ob.val, List.set_cons_zero, List.set_cons_succ, List.length_cons, List.length_nil, Nat.reduceAdd, Nat.reduceSub, Nat.reduceLT, Nat.sub_self, List.replicate_zero, List.replicate_succ, List.cons_append, List.nil_append, List.append_nil, reduceIte, Option.map_some, Option.map_none, List.not_mem_nil, List.nodup_nil, if_true, if_false, Bool.false_eq_true, eq_self, or_self, or_false, false_or, Bool.not_true, Bool.not_false, List.map_cons, List.map_nil, decide_true, decide_false, t1, t2]
theorem gcd_loop2 (C : Cal) (x : Sl) : ∀ (n : Nat) (a b : Nat), b ≤ n → evS C [] (.whl (.cmp .Gt (.var 2) (.int 0)) (.cons (.par 1 2 (.var 2) (.bin .Mod (.var 1) (.var 2))) .nil)) [x, .sh (.int a), .sh (.int b)] = .ok .nx [x, .sh (.int (a.gcd b : Nat)), .sh (.int 0)] := by
  intro n
  induction n with
  | zero =>
    intro a b h
    have : b = 0 := by omega
    subst this
    rw [q_whl, whM_f (s1 := [x, .sh (.int a), .sh (.int 0)])]
    · simp
    · simp only [q_var, q_int, q_str, q_bl, q_non, q_glo, q_bin, q_neg, q_cmp, q_chain, q_and, q_or, q_not, q_ife, q_ix, q_cget, q_dix, q_orv, q_dicm, ky0, ky1, ne_app, q_dic, ne_ok, tr_non, tr_int, tr_lst, q_sl, q_rev, q_tup, q_lst, q_call, n_callN, n_evT, n_tmp, n_isTv, n_isT2, n_isTc, n_aV0, n_aVd, n_aVv, n_hT0, n_hTt, n_hTf, n_scB, n_scI, n_scN, n_scT, n_scL, n_scO, n_let0, n_letD, n_letV, n_letG, q_bf, q_isi, q_lcl, q_app, q_ext, q_pop, q_ins, q_an0, q_an1, q_or0, q_or1, q_ds0, q_ds1, q_os0, q_os1, q_as0, q_as1, q_seq, q_rng, q_zip, q_enu, q_rvd, q_asgN, q_asgT, q_par, q_par3, q_tr, q_trN, q_six, q_exp, q_ret, q_ite, q_rai, q_nil, q_cons, b_app, b_ok, b_bad, b_err, p_app, p_bad, l_some, o_var, f_app, t_app, d_sh, d_ow, r_d, r_v, bM_app, a_t, a_f, rs0, rs1, nx_app, o_int, m_int, o_str, m_str, o_bl, m_bl, o_non, m_non, o_glo, m_glo, o_bin, m_bin, o_neg, m_neg, o_cmp, m_cmp, o_chain, m_chain, o_and, m_and, o_or, m_or, o_not, m_not, o_ife, m_ife, o_ix, m_ix, o_cget, m_cget, o_sl, m_sl, o_orv, m_orv, o_dix, m_dix, o_dic, m_dic, o_tup, m_tup, o_lst, m_lst, o_call, m_call, o_bf, m_bf, o_isi, m_isi, o_lc, m_lc, o_lcl, m_lcl, o_pop, m_pop, o_rfd, m_rfd, m_var, k_add, k_sub, k_mul, k_div, k_mod, k_lt, k_le, k_gt, k_ge, k_isn, k_nisn, k_isb, k_nisb, k_rev, k_eqi, k_nei, x1_0, x2_0, x2_1, x3_0, x3_1, x3_2, x4_0, x4_1, x4_2, x4_3, y2_0, y2_1, y3_0, y3_1, y3_2, n_abs, n_int, n_max, n_min, n_len, n_lent, n_tup, n_all, z0, z1, z2, z3, z4, v_app, opV_app, resV_app, ioV_app, set_app, g0, g1, g2, gS, st0, stS, sz0, sz1, sz2, sz3, sz4, sz5, sz6, sz7, sz8, sz9, sz10, sz11, sz12, sz13, sz14, sz15, sz16, sz17, sz18, sz19, sz20, io_is_whole, io_is_fraction, io_divisor_of, io_pen_machine, io_is_joint, io_is_above, io_are_joints, io_is_step, io_is_machine, io__law_cell_at, io__law_state, io__law_take, io__law_divisor, io__law_ratio, io__law_plus, io__law_minus, io__law_times, io__law_over, io__law_small, io__law_above, io__law_four_rods, io__law_same, io_law, con_MOST_STEPS, asgM, callM, callR, ioIx, argSls, argSl, ioSl, callE, putOuts, outsOf, goodArgs, ioAt, startS, Ob.val, List.set_cons_zero, List.set_cons_succ, List.length_cons, List.length_nil, Nat.reduceAdd, Nat.reduceSub, Nat.reduceLT, Nat.sub_self, List.replicate_zero, List.replicate_succ, List.cons_append, List.nil_append, List.append_nil, reduceIte, Option.map_some, Option.map_none, List.not_mem_nil, List.nodup_nil, if_true, if_false, Bool.false_eq_true, eq_self, or_self, or_false, false_or, Bool.not_true, Bool.not_false, List.map_cons, List.map_nil, decide_true, decide_false] <;> rfl
  | succ n ih =>
    intro a b h
    by_cases w : b = 0
    · subst w
      rw [q_whl, whM_f (s1 := [x, .sh (.int a), .sh (.int 0)])]
      · simp
      · simp only [q_var, q_int, q_str, q_bl, q_non, q_glo, q_bin, q_neg, q_cmp, q_chain, q_and, q_or, q_not, q_ife, q_ix, q_cget, q_dix, q_orv, q_dicm, ky0, ky1, ne_app, q_dic, ne_ok, tr_non, tr_int, tr_lst, q_sl, q_rev, q_tup, q_lst, q_call, n_callN, n_evT, n_tmp, n_isTv, n_isT2, n_isTc, n_aV0, n_aVd, n_aVv, n_hT0, n_hTt, n_hTf, n_scB, n_scI, n_scN, n_scT, n_scL, n_scO, n_let0, n_letD, n_letV, n_letG, q_bf, q_isi, q_lcl, q_app, q_ext, q_pop, q_ins, q_an0, q_an1, q_or0, q_or1, q_ds0, q_ds1, q_os0, q_os1, q_as0, q_as1, q_seq, q_rng, q_zip, q_enu, q_rvd, q_asgN, q_asgT, q_par, q_par3, q_tr, q_trN, q_six, q_exp, q_ret, q_ite, q_rai, q_nil, q_cons, b_app, b_ok, b_bad, b_err, p_app, p_bad, l_some, o_var, f_app, t_app, d_sh, d_ow, r_d, r_v, bM_app, a_t, a_f, rs0, rs1, nx_app, o_int, m_int, o_str, m_str, o_bl, m_bl, o_non, m_non, o_glo, m_glo, o_bin, m_bin, o_neg, m_neg, o_cmp, m_cmp, o_chain, m_chain, o_and, m_and, o_or, m_or, o_not, m_not, o_ife, m_ife, o_ix, m_ix, o_cget, m_cget, o_sl, m_sl, o_orv, m_orv, o_dix, m_dix, o_dic, m_dic, o_tup, m_tup, o_lst, m_lst, o_call, m_call, o_bf, m_bf, o_isi, m_isi, o_lc, m_lc, o_lcl, m_lcl, o_pop, m_pop, o_rfd, m_rfd, m_var, k_add, k_sub, k_mul, k_div, k_mod, k_lt, k_le, k_gt, k_ge, k_isn, k_nisn, k_isb, k_nisb, k_rev, k_eqi, k_nei, x1_0, x2_0, x2_1, x3_0, x3_1, x3_2, x4_0, x4_1, x4_2, x4_3, y2_0, y2_1, y3_0, y3_1, y3_2, n_abs, n_int, n_max, n_min, n_len, n_lent, n_tup, n_all, z0, z1, z2, z3, z4, v_app, opV_app, resV_app, ioV_app, set_app, g0, g1, g2, gS, st0, stS, sz0, sz1, sz2, sz3, sz4, sz5, sz6, sz7, sz8, sz9, sz10, sz11, sz12, sz13, sz14, sz15, sz16, sz17, sz18, sz19, sz20, io_is_whole, io_is_fraction, io_divisor_of, io_pen_machine, io_is_joint, io_is_above, io_are_joints, io_is_step, io_is_machine, io__law_cell_at, io__law_state, io__law_take, io__law_divisor, io__law_ratio, io__law_plus, io__law_minus, io__law_times, io__law_over, io__law_small, io__law_above, io__law_four_rods, io__law_same, io_law, con_MOST_STEPS, asgM, callM, callR, ioIx, argSls, argSl, ioSl, callE, putOuts, outsOf, goodArgs, ioAt, startS, Ob.val, List.set_cons_zero, List.set_cons_succ, List.length_cons, List.length_nil, Nat.reduceAdd, Nat.reduceSub, Nat.reduceLT, Nat.sub_self, List.replicate_zero, List.replicate_succ, List.cons_append, List.nil_append, List.append_nil, reduceIte, Option.map_some, Option.map_none, List.not_mem_nil, List.nodup_nil, if_true, if_false, Bool.false_eq_true, eq_self, or_self, or_false, false_or, Bool.not_true, Bool.not_false, List.map_cons, List.map_nil, decide_true, decide_false] <;> rfl
    · have hm : (b : Int) ≠ 0 := by omega
      have hp : decide ((0 : Int) < (b : Int)) = true := decide_eq_true (by omega)
      have e : (a : Int).fmod (b : Int) = ((a % b : Nat) : Int) := by
        rw [Int.fmod_eq_emod_of_nonneg _ (by omega)]
        rfl
      rw [q_whl, whM_t (s1 := [x, .sh (.int a), .sh (.int b)]) (s2 := [x, .sh (.int b), .sh (.int (a % b : Nat))]), ← q_whl, ih b (a % b) (by have := Nat.mod_lt a (show b > 0 by omega); omega)]
      · rw [Nat.gcd_comm a b, Nat.gcd_rec b a, Nat.gcd_comm]
      · simp only [q_var, q_int, q_str, q_bl, q_non, q_glo, q_bin, q_neg, q_cmp, q_chain, q_and, q_or, q_not, q_ife, q_ix, q_cget, q_dix, q_orv, q_dicm, ky0, ky1, ne_app, q_dic, ne_ok, tr_non, tr_int, tr_lst, q_sl, q_rev, q_tup, q_lst, q_call, n_callN, n_evT, n_tmp, n_isTv, n_isT2, n_isTc, n_aV0, n_aVd, n_aVv, n_hT0, n_hTt, n_hTf, n_scB, n_scI, n_scN, n_scT, n_scL, n_scO, n_let0, n_letD, n_letV, n_letG, q_bf, q_isi, q_lcl, q_app, q_ext, q_pop, q_ins, q_an0, q_an1, q_or0, q_or1, q_ds0, q_ds1, q_os0, q_os1, q_as0, q_as1, q_seq, q_rng, q_zip, q_enu, q_rvd, q_asgN, q_asgT, q_par, q_par3, q_tr, q_trN, q_six, q_exp, q_ret, q_ite, q_rai, q_nil, q_cons, b_app, b_ok, b_bad, b_err, p_app, p_bad, l_some, o_var, f_app, t_app, d_sh, d_ow, r_d, r_v, bM_app, a_t, a_f, rs0, rs1, nx_app, o_int, m_int, o_str, m_str, o_bl, m_bl, o_non, m_non, o_glo, m_glo, o_bin, m_bin, o_neg, m_neg, o_cmp, m_cmp, o_chain, m_chain, o_and, m_and, o_or, m_or, o_not, m_not, o_ife, m_ife, o_ix, m_ix, o_cget, m_cget, o_sl, m_sl, o_orv, m_orv, o_dix, m_dix, o_dic, m_dic, o_tup, m_tup, o_lst, m_lst, o_call, m_call, o_bf, m_bf, o_isi, m_isi, o_lc, m_lc, o_lcl, m_lcl, o_pop, m_pop, o_rfd, m_rfd, m_var, k_add, k_sub, k_mul, k_div, k_mod, k_lt, k_le, k_gt, k_ge, k_isn, k_nisn, k_isb, k_nisb, k_rev, k_eqi, k_nei, x1_0, x2_0, x2_1, x3_0, x3_1, x3_2, x4_0, x4_1, x4_2, x4_3, y2_0, y2_1, y3_0, y3_1, y3_2, n_abs, n_int, n_max, n_min, n_len, n_lent, n_tup, n_all, z0, z1, z2, z3, z4, v_app, opV_app, resV_app, ioV_app, set_app, g0, g1, g2, gS, st0, stS, sz0, sz1, sz2, sz3, sz4, sz5, sz6, sz7, sz8, sz9, sz10, sz11, sz12, sz13, sz14, sz15, sz16, sz17, sz18, sz19, sz20, io_is_whole, io_is_fraction, io_divisor_of, io_pen_machine, io_is_joint, io_is_above, io_are_joints, io_is_step, io_is_machine, io__law_cell_at, io__law_state, io__law_take, io__law_divisor, io__law_ratio, io__law_plus, io__law_minus, io__law_times, io__law_over, io__law_small, io__law_above, io__law_four_rods, io__law_same, io_law, con_MOST_STEPS, asgM, callM, callR, ioIx, argSls, argSl, ioSl, callE, putOuts, outsOf, goodArgs, ioAt, startS, Ob.val, List.set_cons_zero, List.set_cons_succ, List.length_cons, List.length_nil, Nat.reduceAdd, Nat.reduceSub, Nat.reduceLT, Nat.sub_self, List.replicate_zero, List.replicate_succ, List.cons_append, List.nil_append, List.append_nil, reduceIte, Option.map_some, Option.map_none, List.not_mem_nil, List.nodup_nil, if_true, if_false, Bool.false_eq_true, eq_self, or_self, or_false, false_or, Bool.not_true, Bool.not_false, List.map_cons, List.map_nil, decide_true, decide_false, hp]
      · simp only [q_var, q_int, q_str, q_bl, q_non, q_glo, q_bin, q_neg, q_cmp, q_chain, q_and, q_or, q_not, q_ife, q_ix, q_cget, q_dix, q_orv, q_dicm, ky0, ky1, ne_app, q_dic, ne_ok, tr_non, tr_int, tr_lst, q_sl, q_rev, q_tup, q_lst, q_call, n_callN, n_evT, n_tmp, n_isTv, n_isT2, n_isTc, n_aV0, n_aVd, n_aVv, n_hT0, n_hTt, n_hTf, n_scB, n_scI, n_scN, n_scT, n_scL, n_scO, n_let0, n_letD, n_letV, n_letG, q_bf, q_isi, q_lcl, q_app, q_ext, q_pop, q_ins, q_an0, q_an1, q_or0, q_or1, q_ds0, q_ds1, q_os0, q_os1, q_as0, q_as1, q_seq, q_rng, q_zip, q_enu, q_rvd, q_asgN, q_asgT, q_par, q_par3, q_tr, q_trN, q_six, q_exp, q_ret, q_ite, q_rai, q_nil, q_cons, b_app, b_ok, b_bad, b_err, p_app, p_bad, l_some, o_var, f_app, t_app, d_sh, d_ow, r_d, r_v, bM_app, a_t, a_f, rs0, rs1, nx_app, o_int, m_int, o_str, m_str, o_bl, m_bl, o_non, m_non, o_glo, m_glo, o_bin, m_bin, o_neg, m_neg, o_cmp, m_cmp, o_chain, m_chain, o_and, m_and, o_or, m_or, o_not, m_not, o_ife, m_ife, o_ix, m_ix, o_cget, m_cget, o_sl, m_sl, o_orv, m_orv, o_dix, m_dix, o_dic, m_dic, o_tup, m_tup, o_lst, m_lst, o_call, m_call, o_bf, m_bf, o_isi, m_isi, o_lc, m_lc, o_lcl, m_lcl, o_pop, m_pop, o_rfd, m_rfd, m_var, k_add, k_sub, k_mul, k_div, k_mod, k_lt, k_le, k_gt, k_ge, k_isn, k_nisn, k_isb, k_nisb, k_rev, k_eqi, k_nei, x1_0, x2_0, x2_1, x3_0, x3_1, x3_2, x4_0, x4_1, x4_2, x4_3, y2_0, y2_1, y3_0, y3_1, y3_2, n_abs, n_int, n_max, n_min, n_len, n_lent, n_tup, n_all, z0, z1, z2, z3, z4, v_app, opV_app, resV_app, ioV_app, set_app, g0, g1, g2, gS, st0, stS, sz0, sz1, sz2, sz3, sz4, sz5, sz6, sz7, sz8, sz9, sz10, sz11, sz12, sz13, sz14, sz15, sz16, sz17, sz18, sz19, sz20, io_is_whole, io_is_fraction, io_divisor_of, io_pen_machine, io_is_joint, io_is_above, io_are_joints, io_is_step, io_is_machine, io__law_cell_at, io__law_state, io__law_take, io__law_divisor, io__law_ratio, io__law_plus, io__law_minus, io__law_times, io__law_over, io__law_small, io__law_above, io__law_four_rods, io__law_same, io_law, con_MOST_STEPS, asgM, callM, callR, ioIx, argSls, argSl, ioSl, callE, putOuts, outsOf, goodArgs, ioAt, startS, Ob.val, List.set_cons_zero, List.set_cons_succ, List.length_cons, List.length_nil, Nat.reduceAdd, Nat.reduceSub, Nat.reduceLT, Nat.sub_self, List.replicate_zero, List.replicate_succ, List.cons_append, List.nil_append, List.append_nil, reduceIte, Option.map_some, Option.map_none, List.not_mem_nil, List.nodup_nil, if_true, if_false, Bool.false_eq_true, eq_self, or_self, or_false, false_or, Bool.not_true, Bool.not_false, List.map_cons, List.map_nil, decide_true, decide_false, k_mod hm, e]
theorem r_divisor_of {k : Nat} (h : 1 ≤ k) (q : Rat) : (calAt g.pr k).run i_divisor_of [.sh (fr q)] = .ok (.sh (.int 1)) [] := by
  obtain ⟨k, rfl⟩ := Nat.exists_eq_add_of_le' (show 1 ≤ k by omega)
  rw [rr k (t := ⟨f_divisor_of, _, _, _⟩) rfl]
  have ea : ∀ i : Int, (if i < 0 then -i else i) = ((i.natAbs : Nat) : Int) := fun i => by split <;> omega
  have r1 := gcd_loop2 (calAt g.pr k) (.sh (.tuple [.int q.num, .int (q.den : Int)])) q.den q.num.natAbs q.den (Nat.le_refl _)
  have c : q.num.natAbs.gcd q.den = 1 := q.reduced
  rw [c] at r1
  unfold fr
  simp only [runFd, f_divisor_of, q_var, q_int, q_str, q_bl, q_non, q_glo, q_bin, q_neg, q_cmp, q_chain, q_and, q_or, q_not, q_ife, q_ix, q_cget, q_dix, q_orv, q_dicm, ky0, ky1, ne_app, q_dic, ne_ok, tr_non, tr_int, tr_lst, q_sl, q_rev, q_tup, q_lst, q_call, n_callN, n_evT, n_tmp, n_isTv, n_isT2, n_isTc, n_aV0, n_aVd, n_aVv, n_hT0, n_hTt, n_hTf, n_scB, n_scI, n_scN, n_scT, n_scL, n_scO, n_let0, n_letD, n_letV, n_letG, q_bf, q_isi, q_lcl, q_app, q_ext, q_pop, q_ins, q_an0, q_an1, q_or0, q_or1, q_ds0, q_ds1, q_os0, q_os1, q_as0, q_as1, q_seq, q_rng, q_zip, q_enu, q_rvd, q_asgN, q_asgT, q_par, q_par3, q_tr, q_trN, q_six, q_exp, q_ret, q_ite, q_rai, q_nil, q_cons, b_app, b_ok, b_bad, b_err, p_app, p_bad, l_some, o_var, f_app, t_app, d_sh, d_ow, r_d, r_v, bM_app, a_t, a_f, rs0, rs1, nx_app, o_int, m_int, o_str, m_str, o_bl, m_bl, o_non, m_non, o_glo, m_glo, o_bin, m_bin, o_neg, m_neg, o_cmp, m_cmp, o_chain, m_chain, o_and, m_and, o_or, m_or, o_not, m_not, o_ife, m_ife, o_ix, m_ix, o_cget, m_cget, o_sl, m_sl, o_orv, m_orv, o_dix, m_dix, o_dic, m_dic, o_tup, m_tup, o_lst, m_lst, o_call, m_call, o_bf, m_bf, o_isi, m_isi, o_lc, m_lc, o_lcl, m_lcl, o_pop, m_pop, o_rfd, m_rfd, m_var, k_add, k_sub, k_mul, k_div, k_mod, k_lt, k_le, k_gt, k_ge, k_isn, k_nisn, k_isb, k_nisb, k_rev, k_eqi, k_nei, x1_0, x2_0, x2_1, x3_0, x3_1, x3_2, x4_0, x4_1, x4_2, x4_3, y2_0, y2_1, y3_0, y3_1, y3_2, n_abs, n_int, n_max, n_min, n_len, n_lent, n_tup, n_all, z0, z1, z2, z3, z4, v_app, opV_app, resV_app, ioV_app, set_app, g0, g1, g2, gS, st0, stS, sz0, sz1, sz2, sz3, sz4, sz5, sz6, sz7, sz8, sz9, sz10, sz11, sz12, sz13, sz14, sz15, sz16, sz17, sz18, sz19, sz20, io_is_whole, io_is_fraction, io_divisor_of, io_pen_machine, io_is_joint, io_is_above, io_are_joints, io_is_step, io_is_machine, io__law_cell_at, io__law_state, io__law_take, io__law_divisor, io__law_ratio, io__law_plus, io__law_minus, io__law_times, io__law_over, io__law_small, io__law_above, io__law_four_rods, io__law_same, io_law, con_MOST_STEPS, asgM, callM, callR, ioIx, argSls, argSl, ioSl, callE, putOuts, outsOf, goodArgs, ioAt, startS, Ob.val, List.set_cons_zero, List.set_cons_succ, List.length_cons, List.length_nil, Nat.reduceAdd, Nat.reduceSub, Nat.reduceLT, Nat.sub_self, List.replicate_zero, List.replicate_succ, List.cons_append, List.nil_append, List.append_nil, reduceIte, Option.map_some, Option.map_none, List.not_mem_nil, List.nodup_nil, if_true, if_false, Bool.false_eq_true, eq_self, or_self, or_false, false_or, Bool.not_true, Bool.not_false, List.map_cons, List.map_nil, decide_true, decide_false, ea, r1] <;> rfl
theorem r_is_fraction {k : Nat} (h : 2 ≤ k) (q : Rat) : (calAt g.pr k).run i_is_fraction [.sh (fr q)] = .ok (.sh (.bool true)) [] := by
  obtain ⟨k, rfl⟩ := Nat.exists_eq_add_of_le' (show 1 ≤ k by omega)
  rw [rr k (t := ⟨f_is_fraction, _, _, _⟩) rfl]
  have r1 := r_is_whole (k := k) (by omega) q.num
  have r2 := r_is_whole (k := k) (by omega) (q.den : Int)
  have r3 := r_divisor_of (k := k) (by omega) q
  have t1 : [Ty.tuple].any (isTy (.tuple [.int q.num, .int (q.den : Int)])) = true := rfl
  have d1 : decide ((q.den : Int) < 1) = false := decide_eq_false (by have := q.den_nz; omega)
  unfold fr at r3 ⊢
  simp (decide := true) only [runFd, f_is_fraction, q_var, q_int, q_str, q_bl, q_non, q_glo, q_bin, q_neg, q_cmp, q_chain, q_and, q_or, q_not, q_ife, q_ix, q_cget, q_dix, q_orv, q_dicm, ky0, ky1, ne_app, q_dic, ne_ok, tr_non, tr_int, tr_lst, q_sl, q_rev, q_tup, q_lst, q_call, n_callN, n_evT, n_tmp, n_isTv, n_isT2, n_isTc, n_aV0, n_aVd, n_aVv, n_hT0, n_hTt, n_hTf, n_scB, n_scI, n_scN, n_scT, n_scL, n_scO, n_let0, n_letD, n_letV, n_letG, q_bf, q_isi, q_lcl, q_app, q_ext, q_pop, q_ins, q_an0, q_an1, q_or0, q_or1, q_ds0, q_ds1, q_os0, q_os1, q_as0, q_as1, q_seq, q_rng, q_zip, q_enu, q_rvd, q_asgN, q_asgT, q_par, q_par3, q_tr, q_trN, q_six, q_exp, q_ret, q_ite, q_rai, q_nil, q_cons, b_app, b_ok, b_bad, b_err, p_app, p_bad, l_some, o_var, f_app, t_app, d_sh, d_ow, r_d, r_v, bM_app, a_t, a_f, rs0, rs1, nx_app, o_int, m_int, o_str, m_str, o_bl, m_bl, o_non, m_non, o_glo, m_glo, o_bin, m_bin, o_neg, m_neg, o_cmp, m_cmp, o_chain, m_chain, o_and, m_and, o_or, m_or, o_not, m_not, o_ife, m_ife, o_ix, m_ix, o_cget, m_cget, o_sl, m_sl, o_orv, m_orv, o_dix, m_dix, o_dic, m_dic, o_tup, m_tup, o_lst, m_lst, o_call, m_call, o_bf, m_bf, o_isi, m_isi, o_lc, m_lc, o_lcl, m_lcl, o_pop, m_pop, o_rfd, m_rfd, m_var, k_add, k_sub, k_mul, k_div, k_mod, k_lt, k_le, k_gt, k_ge, k_isn, k_nisn, k_isb, k_nisb, k_rev, k_eqi, k_nei, x1_0, x2_0, x2_1, x3_0, x3_1, x3_2, x4_0, x4_1, x4_2, x4_3, y2_0, y2_1, y3_0, y3_1, y3_2, n_abs, n_int, n_max, n_min, n_len, n_lent, n_tup, n_all, z0, z1, z2, z3, z4, v_app, opV_app, resV_app, ioV_app, set_app, g0, g1, g2, gS, st0, stS, sz0, sz1, sz2, sz3, sz4, sz5, sz6, sz7, sz8, sz9, sz10, sz11, sz12, sz13, sz14, sz15, sz16, sz17, sz18, sz19, sz20, io_is_whole, io_is_fraction, io_divisor_of, io_pen_machine, io_is_joint, io_is_above, io_are_joints, io_is_step, io_is_machine, io__law_cell_at, io__law_state, io__law_take, io__law_divisor, io__law_ratio, io__law_plus, io__law_minus, io__law_times, io__law_over, io__law_small, io__law_above, io__law_four_rods, io__law_same, io_law, con_MOST_STEPS, asgM, callM, callR, ioIx, argSls, argSl, ioSl, callE, putOuts, outsOf, goodArgs, ioAt, startS, Ob.val, List.set_cons_zero, List.set_cons_succ, List.length_cons, List.length_nil, Nat.reduceAdd, Nat.reduceSub, Nat.reduceLT, Nat.sub_self, List.replicate_zero, List.replicate_succ, List.cons_append, List.nil_append, List.append_nil, reduceIte, Option.map_some, Option.map_none, List.not_mem_nil, List.nodup_nil, if_true, if_false, Bool.false_eq_true, eq_self, or_self, or_false, false_or, Bool.not_true, Bool.not_false, List.map_cons, List.map_nil, decide_true, decide_false, n_lent, t1, r1, r2, r3, d1, decide_true]
theorem und_abs {d b : Rat} (u : 0 < d) : ab (b * ab b * d) = b * b * d := by rw [ab_un u, ab_sq]
end Lw
set_option Elab.async false
set_option linter.all false
set_option maxRecDepth 100000
set_option maxHeartbeats 400000
/-! Four rods and a pen: drawn; their machine. -/
namespace Lw
open PySem Hg
theorem r_above {k : Nat} (h : 3 ≤ k) {s : Int} {b : Bool} (iv : Iv s b) : ∃ (q : Rat) (s' : Int), 0 < q ∧ Bt 5 q ∧ Iv s' b ∧ (calAt g.pr k).run i__law_above [.ow (so s b)] = .ok (.sh (fr q)) [so s' b] := by
  obtain ⟨k, rfl⟩ := Nat.exists_eq_add_of_le' (show 1 ≤ k by omega)
  rw [rr k (t := ⟨f__law_above, _, _, _⟩) rfl]
  obtain ⟨r1, s1, a1, a2, iv1, e1⟩ := r_take (k := k) (by omega) iv (m := 12) (by decide) (by decide)
  obtain ⟨r2, s2, b1, b2, iv2, e2⟩ := r_take (k := k) (by omega) iv1 (m := 6) (by decide) (by decide)
  obtain ⟨r3, s3, c1, c2, iv3, e3⟩ := r_take (k := k) (by omega) iv2 (m := 3) (by decide) (by decide)
  have hx : ∃ x : Int, 0 ≤ x ∧ x < 6 ∧ ixD (.list [.int 0, .int 0, .int r2]) (.int r3) = some (.int x) := by
    rcases (show r3 = 0 ∨ r3 = 1 ∨ r3 = 2 by omega) with rfl | rfl | rfl
    · exact ⟨0, by decide, by decide, rfl⟩
    · exact ⟨0, by decide, by decide, rfl⟩
    · exact ⟨r2, b1, b2, rfl⟩
  obtain ⟨x, x0, x1, hx⟩ := hx
  have hd : (1 + x) ≠ 0 := by omega
  have bd : Bi 5 (1 + x) := by unfold Bi; omega
  have bn : Bi 5 (1 + r1) := by unfold Bi; omega
  have rt := r_lratio (k := k) (by omega) (a := 1 + r1) hd (bd.mono (by decide))
  refine ⟨Rat.divInt (1 + r1) (1 + x), s3, ?_, Bt.divInt hd bn bd, iv3, ?_⟩
  · rw [Rat.divInt_eq_div]
    have p1 : (0 : Rat) < ((1 + r1 : Int) : Rat) := Rat.intCast_pos.mpr (by omega)
    have p2 : (0 : Rat) < ((1 + x : Int) : Rat) := Rat.intCast_pos.mpr (by omega)
    rw [Rat.div_def]
    exact Rat.mul_pos p1 (Rat.inv_pos.mpr p2)
  · unfold so at *
    simp (decide := true) only [runFd, f__law_above, q_var, q_int, q_str, q_bl, q_non, q_glo, q_bin, q_neg, q_cmp, q_chain, q_and, q_or, q_not, q_ife, q_ix, q_cget, q_dix, q_orv, q_dicm, ky0, ky1, ne_app, q_dic, ne_ok, tr_non, tr_int, tr_lst, q_sl, q_rev, q_tup, q_lst, q_call, n_callN, n_evT, n_tmp, n_isTv, n_isT2, n_isTc, n_aV0, n_aVd, n_aVv, n_hT0, n_hTt, n_hTf, n_scB, n_scI, n_scN, n_scT, n_scL, n_scO, n_let0, n_letD, n_letV, n_letG, q_bf, q_isi, q_lcl, q_app, q_ext, q_pop, q_ins, q_an0, q_an1, q_or0, q_or1, q_ds0, q_ds1, q_os0, q_os1, q_as0, q_as1, q_seq, q_rng, q_zip, q_enu, q_rvd, q_asgN, q_asgT, q_par, q_par3, q_tr, q_trN, q_six, q_exp, q_ret, q_ite, q_rai, q_nil, q_cons, b_app, b_ok, b_bad, b_err, p_app, p_bad, l_some, o_var, f_app, t_app, d_sh, d_ow, r_d, r_v, bM_app, a_t, a_f, rs0, rs1, nx_app, o_int, m_int, o_str, m_str, o_bl, m_bl, o_non, m_non, o_glo, m_glo, o_bin, m_bin, o_neg, m_neg, o_cmp, m_cmp, o_chain, m_chain, o_and, m_and, o_or, m_or, o_not, m_not, o_ife, m_ife, o_ix, m_ix, o_cget, m_cget, o_sl, m_sl, o_orv, m_orv, o_dix, m_dix, o_dic, m_dic, o_tup, m_tup, o_lst, m_lst, o_call, m_call, o_bf, m_bf, o_isi, m_isi, o_lc, m_lc, o_lcl, m_lcl, o_pop, m_pop, o_rfd, m_rfd, m_var, k_add, k_sub, k_mul, k_div, k_mod, k_lt, k_le, k_gt, k_ge, k_isn, k_nisn, k_isb, k_nisb, k_rev, k_eqi, k_nei, x1_0, x2_0, x2_1, x3_0, x3_1, x3_2, x4_0, x4_1, x4_2, x4_3, y2_0, y2_1, y3_0, y3_1, y3_2, n_abs, n_int, n_max, n_min, n_len, n_lent, n_tup, n_all, z0, z1, z2, z3, z4, v_app, opV_app, resV_app, ioV_app, set_app, g0, g1, g2, gS, st0, stS, sz0, sz1, sz2, sz3, sz4, sz5, sz6, sz7, sz8, sz9, sz10, sz11, sz12, sz13, sz14, sz15, sz16, sz17, sz18, sz19, sz20, io_is_whole, io_is_fraction, io_divisor_of, io_pen_machine, io_is_joint, io_is_above, io_are_joints, io_is_step, io_is_machine, io__law_cell_at, io__law_state, io__law_take, io__law_divisor, io__law_ratio, io__law_plus, io__law_minus, io__law_times, io__law_over, io__law_small, io__law_above, io__law_four_rods, io__law_same, io_law, con_MOST_STEPS, asgM, callM, callR, ioIx, argSls, argSl, ioSl, callE, putOuts, outsOf, goodArgs, ioAt, startS, Ob.val, List.set_cons_zero, List.set_cons_succ, List.length_cons, List.length_nil, Nat.reduceAdd, Nat.reduceSub, Nat.reduceLT, Nat.sub_self, List.replicate_zero, List.replicate_succ, List.cons_append, List.nil_append, List.append_nil, reduceIte, Option.map_some, Option.map_none, List.not_mem_nil, List.nodup_nil, if_true, if_false, Bool.false_eq_true, eq_self, or_self, or_false, false_or, Bool.not_true, Bool.not_false, List.map_cons, List.map_nil, decide_true, decide_false, q_ownL, e1, e2, e3, hx, rt, List.nodup_cons]
abbrev p2 (a b : Rat) : D := .tuple [fr a, fr b]
theorem r_rods {k : Nat} (h : 4 ≤ k) {s : Int} {bl : Bool} (iv : Iv s bl) : ∃ (a b c d cr u v p q : Rat) (s' : Int), 0 < cr ∧ 0 < u ∧ 0 < v ∧ Iv s' bl ∧
    (calAt g.pr k).run i__law_four_rods [.ow (so s bl)] = .ok (.sh (.tuple [p2 a b, p2 c d, fr cr, p2 u v, p2 p q])) [so s' bl] := by
  obtain ⟨k, rfl⟩ := Nat.exists_eq_add_of_le' (show 1 ≤ k by omega)
  rw [rr k (t := ⟨f__law_four_rods, _, _, _⟩) rfl]
  obtain ⟨a, s1, ba, iv1, e1⟩ := r_small (k := k) (by omega) iv
  obtain ⟨b, s2, bb, iv2, e2⟩ := r_small (k := k) (by omega) iv1
  obtain ⟨c, s3, bc, iv3, e3⟩ := r_small (k := k) (by omega) iv2
  obtain ⟨d, s4, bd, iv4, e4⟩ := r_small (k := k) (by omega) iv3
  obtain ⟨u, s5, u0, bu, iv5, e5⟩ := r_above (k := k) (by omega) iv4
  obtain ⟨v, s6, v0, bv, iv6, e6⟩ := r_above (k := k) (by omega) iv5
  obtain ⟨p, s7, bp, iv7, e7⟩ := r_small (k := k) (by omega) iv6
  obtain ⟨q, s8, bq, iv8, e8⟩ := r_small (k := k) (by omega) iv7
  obtain ⟨w, s9, bw, iv9, e9⟩ := r_small (k := k) (by omega) iv8
  obtain ⟨cr, s10, c0, bcr, iv10, e10⟩ := r_above (k := k) (by omega) iv9
  obtain ⟨j, s11, j0, j1, iv11, e11⟩ := r_take (k := k) (by omega) iv10 (m := 4) (by decide) (by decide)
  have n1 : PyData.tuple [.int 1, .int 1] = fr 1 := rfl
  have n9 : PyData.tuple [.int 9, .int 1] = fr 9 := rfl
  have r1 := r_lplus (k := k) (by omega) (bc.mono (show 5 ≤ 3900 by decide)) ((Bt.nat (i := 1) (n := 10) (by decide) (by decide)).mono (show 10 ≤ 3900 by decide))
  have r2 := r_ltimes (k := k) (by omega) (bu.mono (show 5 ≤ 3900 by decide)) ((Bt.nat (i := 9) (n := 10) (by decide) (by decide)).mono (show 10 ≤ 3900 by decide))
  have r3 := r_ltimes (k := k) (by omega) (bv.mono (show 5 ≤ 3900 by decide)) ((Bt.nat (i := 9) (n := 10) (by decide) (by decide)).mono (show 10 ≤ 3900 by decide))
  have hx : ∃ p' q' : Rat, ixD (.list [p2 p q, .tuple [.tuple [.int 1, .int 2], .tuple [.int 0, .int 1]], .tuple [.tuple [.int 0, .int 1], fr w], .tuple [.tuple [.int 1, .int 1], .tuple [.int 0, .int 1]]]) (.int j) = some (p2 p' q') := by
    rcases (show j = 0 ∨ j = 1 ∨ j = 2 ∨ j = 3 by omega) with rfl | rfl | rfl | rfl
    · exact ⟨p, q, rfl⟩
    · exact ⟨Rat.divInt 1 2, 0, rfl⟩
    · exact ⟨0, w, rfl⟩
    · exact ⟨1, 0, rfl⟩
  obtain ⟨p', q', hx⟩ := hx
  have eq : ∃ t, cmpD .Eq (.tuple [fr a, fr b]) (.tuple [fr c, fr d]) = some t := ⟨_, rfl⟩
  obtain ⟨t, eq⟩ := eq
  have pos : ∀ x : Rat, 0 < x → 0 < x * ((9 : Nat) : Rat) := fun x hx => Rat.mul_pos hx (by exact Rat.natCast_pos.mpr (by decide))
  cases t with
  | true =>
    refine ⟨a, b, c + ((1 : Nat) : Rat), d, cr, u * ((9 : Nat) : Rat), v * ((9 : Nat) : Rat), p', q', s11, c0, pos u u0, pos v v0, iv11, ?_⟩
    have n1' : PyData.tuple [.int 1, .int 1] = fr ((1 : Nat) : Rat) := rfl
    have n9' : PyData.tuple [.int 9, .int 1] = fr ((9 : Nat) : Rat) := rfl
    rw [← n1'] at r1
    rw [← n9'] at r2 r3
    unfold so p2 at *
    generalize fr (c + ((1 : Nat) : Rat)) = m1 at *
    generalize fr (u * ((9 : Nat) : Rat)) = m2 at *
    generalize fr (v * ((9 : Nat) : Rat)) = m3 at *
    simp (decide := true) only [runFd, f__law_four_rods, q_var, q_int, q_str, q_bl, q_non, q_glo, q_bin, q_neg, q_cmp, q_chain, q_and, q_or, q_not, q_ife, q_ix, q_cget, q_dix, q_orv, q_dicm, ky0, ky1, ne_app, q_dic, ne_ok, tr_non, tr_int, tr_lst, q_sl, q_rev, q_tup, q_lst, q_call, n_callN, n_evT, n_tmp, n_isTv, n_isT2, n_isTc, n_aV0, n_aVd, n_aVv, n_hT0, n_hTt, n_hTf, n_scB, n_scI, n_scN, n_scT, n_scL, n_scO, n_let0, n_letD, n_letV, n_letG, q_bf, q_isi, q_lcl, q_app, q_ext, q_pop, q_ins, q_an0, q_an1, q_or0, q_or1, q_ds0, q_ds1, q_os0, q_os1, q_as0, q_as1, q_seq, q_rng, q_zip, q_enu, q_rvd, q_asgN, q_asgT, q_par, q_par3, q_tr, q_trN, q_six, q_exp, q_ret, q_ite, q_rai, q_nil, q_cons, b_app, b_ok, b_bad, b_err, p_app, p_bad, l_some, o_var, f_app, t_app, d_sh, d_ow, r_d, r_v, bM_app, a_t, a_f, rs0, rs1, nx_app, o_int, m_int, o_str, m_str, o_bl, m_bl, o_non, m_non, o_glo, m_glo, o_bin, m_bin, o_neg, m_neg, o_cmp, m_cmp, o_chain, m_chain, o_and, m_and, o_or, m_or, o_not, m_not, o_ife, m_ife, o_ix, m_ix, o_cget, m_cget, o_sl, m_sl, o_orv, m_orv, o_dix, m_dix, o_dic, m_dic, o_tup, m_tup, o_lst, m_lst, o_call, m_call, o_bf, m_bf, o_isi, m_isi, o_lc, m_lc, o_lcl, m_lcl, o_pop, m_pop, o_rfd, m_rfd, m_var, k_add, k_sub, k_mul, k_div, k_mod, k_lt, k_le, k_gt, k_ge, k_isn, k_nisn, k_isb, k_nisb, k_rev, k_eqi, k_nei, x1_0, x2_0, x2_1, x3_0, x3_1, x3_2, x4_0, x4_1, x4_2, x4_3, y2_0, y2_1, y3_0, y3_1, y3_2, n_abs, n_int, n_max, n_min, n_len, n_lent, n_tup, n_all, z0, z1, z2, z3, z4, v_app, opV_app, resV_app, ioV_app, set_app, g0, g1, g2, gS, st0, stS, sz0, sz1, sz2, sz3, sz4, sz5, sz6, sz7, sz8, sz9, sz10, sz11, sz12, sz13, sz14, sz15, sz16, sz17, sz18, sz19, sz20, io_is_whole, io_is_fraction, io_divisor_of, io_pen_machine, io_is_joint, io_is_above, io_are_joints, io_is_step, io_is_machine, io__law_cell_at, io__law_state, io__law_take, io__law_divisor, io__law_ratio, io__law_plus, io__law_minus, io__law_times, io__law_over, io__law_small, io__law_above, io__law_four_rods, io__law_same, io_law, con_MOST_STEPS, asgM, callM, callR, ioIx, argSls, argSl, ioSl, callE, putOuts, outsOf, goodArgs, ioAt, startS, Ob.val, List.set_cons_zero, List.set_cons_succ, List.length_cons, List.length_nil, Nat.reduceAdd, Nat.reduceSub, Nat.reduceLT, Nat.sub_self, List.replicate_zero, List.replicate_succ, List.cons_append, List.nil_append, List.append_nil, reduceIte, Option.map_some, Option.map_none, List.not_mem_nil, List.nodup_nil, if_true, if_false, Bool.false_eq_true, eq_self, or_self, or_false, false_or, Bool.not_true, Bool.not_false, List.map_cons, List.map_nil, decide_true, decide_false, q_ownL, e1, e2, e3, e4, e5, e6, e7, e8, e9, e10, e11, r1, r2, r3, eq, hx, List.nodup_cons]
  | false =>
    refine ⟨a, b, c, d, cr, u * ((9 : Nat) : Rat), v * ((9 : Nat) : Rat), p', q', s11, c0, pos u u0, pos v v0, iv11, ?_⟩
    have n9' : PyData.tuple [.int 9, .int 1] = fr ((9 : Nat) : Rat) := rfl
    rw [← n9'] at r2 r3
    unfold so p2 at *
    generalize fr (u * ((9 : Nat) : Rat)) = m2 at *
    generalize fr (v * ((9 : Nat) : Rat)) = m3 at *
    simp (decide := true) only [runFd, f__law_four_rods, q_var, q_int, q_str, q_bl, q_non, q_glo, q_bin, q_neg, q_cmp, q_chain, q_and, q_or, q_not, q_ife, q_ix, q_cget, q_dix, q_orv, q_dicm, ky0, ky1, ne_app, q_dic, ne_ok, tr_non, tr_int, tr_lst, q_sl, q_rev, q_tup, q_lst, q_call, n_callN, n_evT, n_tmp, n_isTv, n_isT2, n_isTc, n_aV0, n_aVd, n_aVv, n_hT0, n_hTt, n_hTf, n_scB, n_scI, n_scN, n_scT, n_scL, n_scO, n_let0, n_letD, n_letV, n_letG, q_bf, q_isi, q_lcl, q_app, q_ext, q_pop, q_ins, q_an0, q_an1, q_or0, q_or1, q_ds0, q_ds1, q_os0, q_os1, q_as0, q_as1, q_seq, q_rng, q_zip, q_enu, q_rvd, q_asgN, q_asgT, q_par, q_par3, q_tr, q_trN, q_six, q_exp, q_ret, q_ite, q_rai, q_nil, q_cons, b_app, b_ok, b_bad, b_err, p_app, p_bad, l_some, o_var, f_app, t_app, d_sh, d_ow, r_d, r_v, bM_app, a_t, a_f, rs0, rs1, nx_app, o_int, m_int, o_str, m_str, o_bl, m_bl, o_non, m_non, o_glo, m_glo, o_bin, m_bin, o_neg, m_neg, o_cmp, m_cmp, o_chain, m_chain, o_and, m_and, o_or, m_or, o_not, m_not, o_ife, m_ife, o_ix, m_ix, o_cget, m_cget, o_sl, m_sl, o_orv, m_orv, o_dix, m_dix, o_dic, m_dic, o_tup, m_tup, o_lst, m_lst, o_call, m_call, o_bf, m_bf, o_isi, m_isi, o_lc, m_lc, o_lcl, m_lcl, o_pop, m_pop, o_rfd, m_rfd, m_var, k_add, k_sub, k_mul, k_div, k_mod, k_lt, k_le, k_gt, k_ge, k_isn, k_nisn, k_isb, k_nisb, k_rev, k_eqi, k_nei, x1_0, x2_0, x2_1, x3_0, x3_1, x3_2, x4_0, x4_1, x4_2, x4_3, y2_0, y2_1, y3_0, y3_1, y3_2, n_abs, n_int, n_max, n_min, n_len, n_lent, n_tup, n_all, z0, z1, z2, z3, z4, v_app, opV_app, resV_app, ioV_app, set_app, g0, g1, g2, gS, st0, stS, sz0, sz1, sz2, sz3, sz4, sz5, sz6, sz7, sz8, sz9, sz10, sz11, sz12, sz13, sz14, sz15, sz16, sz17, sz18, sz19, sz20, io_is_whole, io_is_fraction, io_divisor_of, io_pen_machine, io_is_joint, io_is_above, io_are_joints, io_is_step, io_is_machine, io__law_cell_at, io__law_state, io__law_take, io__law_divisor, io__law_ratio, io__law_plus, io__law_minus, io__law_times, io__law_over, io__law_small, io__law_above, io__law_four_rods, io__law_same, io_law, con_MOST_STEPS, asgM, callM, callR, ioIx, argSls, argSl, ioSl, callE, putOuts, outsOf, goodArgs, ioAt, startS, Ob.val, List.set_cons_zero, List.set_cons_succ, List.length_cons, List.length_nil, Nat.reduceAdd, Nat.reduceSub, Nat.reduceLT, Nat.sub_self, List.replicate_zero, List.replicate_succ, List.cons_append, List.nil_append, List.append_nil, reduceIte, Option.map_some, Option.map_none, List.not_mem_nil, List.nodup_nil, if_true, if_false, Bool.false_eq_true, eq_self, or_self, or_false, false_or, Bool.not_true, Bool.not_false, List.map_cons, List.map_nil, decide_true, decide_false, q_ownL, e1, e2, e3, e4, e5, e6, e7, e8, e9, e10, e11, r1, r2, r3, eq, hx, List.nodup_cons]
/-- the machine's steps -/
abbrev sFix (a b : D) : D := .tuple [.str "fix", a, b]
abbrev sCrank (c : D) : D := .tuple [.str "crank", .int 0, c]
abbrev sPair (u v : D) (e : Int) : D := .tuple [.str "pair", .int 2, .int 1, u, v, .int e]
abbrev sLike (p q : D) : D := .tuple [.str "like", .int 2, .int 3, p, q]
theorem r_pen {k : Nat} (h : 1 ≤ k) (a b c d r u v p q : D) (e : Int) : (calAt g.pr k).run i_pen_machine [.sh (.tuple [a, b]), .sh (.tuple [c, d]), .sh r, .sh (.tuple [u, v]), .sh (.tuple [p, q]), .sh (.int e)] =
    .ok (.sh (.tuple [sFix a b, sFix c d, sCrank r, sPair u v e, sLike p q])) [] := by
  obtain ⟨k, rfl⟩ := Nat.exists_eq_add_of_le' (show 1 ≤ k by omega)
  rw [rr k (t := ⟨f_pen_machine, _, _, _⟩) rfl]
  have l1 : ∀ x y z w : D, appM 6 w [x, y, z] = nonM 6 [x, y, z, w] := fun x y z w => by
    funext s
    exact q_app' (by show 3 < sizeLine; decide)
  have l2 : ∀ x y z w t : D, appM 6 t [x, y, z, w] = nonM 6 [x, y, z, w, t] := fun x y z w t => by
    funext s
    exact q_app' (by show 4 < sizeLine; decide)
  simp (decide := true) only [runFd, f_pen_machine, q_var, q_int, q_str, q_bl, q_non, q_glo, q_bin, q_neg, q_cmp, q_chain, q_and, q_or, q_not, q_ife, q_ix, q_cget, q_dix, q_orv, q_dicm, ky0, ky1, ne_app, q_dic, ne_ok, tr_non, tr_int, tr_lst, q_sl, q_rev, q_tup, q_lst, q_call, n_callN, n_evT, n_tmp, n_isTv, n_isT2, n_isTc, n_aV0, n_aVd, n_aVv, n_hT0, n_hTt, n_hTf, n_scB, n_scI, n_scN, n_scT, n_scL, n_scO, n_let0, n_letD, n_letV, n_letG, q_bf, q_isi, q_lcl, q_app, q_ext, q_pop, q_ins, q_an0, q_an1, q_or0, q_or1, q_ds0, q_ds1, q_os0, q_os1, q_as0, q_as1, q_seq, q_rng, q_zip, q_enu, q_rvd, q_asgN, q_asgT, q_par, q_par3, q_tr, q_trN, q_six, q_exp, q_ret, q_ite, q_rai, q_nil, q_cons, b_app, b_ok, b_bad, b_err, p_app, p_bad, l_some, o_var, f_app, t_app, d_sh, d_ow, r_d, r_v, bM_app, a_t, a_f, rs0, rs1, nx_app, o_int, m_int, o_str, m_str, o_bl, m_bl, o_non, m_non, o_glo, m_glo, o_bin, m_bin, o_neg, m_neg, o_cmp, m_cmp, o_chain, m_chain, o_and, m_and, o_or, m_or, o_not, m_not, o_ife, m_ife, o_ix, m_ix, o_cget, m_cget, o_sl, m_sl, o_orv, m_orv, o_dix, m_dix, o_dic, m_dic, o_tup, m_tup, o_lst, m_lst, o_call, m_call, o_bf, m_bf, o_isi, m_isi, o_lc, m_lc, o_lcl, m_lcl, o_pop, m_pop, o_rfd, m_rfd, m_var, k_add, k_sub, k_mul, k_div, k_mod, k_lt, k_le, k_gt, k_ge, k_isn, k_nisn, k_isb, k_nisb, k_rev, k_eqi, k_nei, x1_0, x2_0, x2_1, x3_0, x3_1, x3_2, x4_0, x4_1, x4_2, x4_3, y2_0, y2_1, y3_0, y3_1, y3_2, n_abs, n_int, n_max, n_min, n_len, n_lent, n_tup, n_all, z0, z1, z2, z3, z4, v_app, opV_app, resV_app, ioV_app, set_app, g0, g1, g2, gS, st0, stS, sz0, sz1, sz2, sz3, sz4, sz5, sz6, sz7, sz8, sz9, sz10, sz11, sz12, sz13, sz14, sz15, sz16, sz17, sz18, sz19, sz20, io_is_whole, io_is_fraction, io_divisor_of, io_pen_machine, io_is_joint, io_is_above, io_are_joints, io_is_step, io_is_machine, io__law_cell_at, io__law_state, io__law_take, io__law_divisor, io__law_ratio, io__law_plus, io__law_minus, io__law_times, io__law_over, io__law_small, io__law_above, io__law_four_rods, io__law_same, io_law, con_MOST_STEPS, asgM, callM, callR, ioIx, argSls, argSl, ioSl, callE, putOuts, outsOf, goodArgs, ioAt, startS, Ob.val, List.set_cons_zero, List.set_cons_succ, List.length_cons, List.length_nil, Nat.reduceAdd, Nat.reduceSub, Nat.reduceLT, Nat.sub_self, List.replicate_zero, List.replicate_succ, List.cons_append, List.nil_append, List.append_nil, reduceIte, Option.map_some, Option.map_none, List.not_mem_nil, List.nodup_nil, if_true, if_false, Bool.false_eq_true, eq_self, or_self, or_false, false_or, Bool.not_true, Bool.not_false, List.map_cons, List.map_nil, decide_true, decide_false, q_ownL, l1, l2, q_nonM]
theorem r_joint {k : Nat} (h : 2 ≤ k) {i n : Int} (h0 : 0 ≤ i) (h1 : i < n) : (calAt g.pr k).run i_is_joint [.sh (.int i), .sh (.int n)] = .ok (.sh (.bool true)) [] := by
  obtain ⟨k, rfl⟩ := Nat.exists_eq_add_of_le' (show 1 ≤ k by omega)
  rw [rr k (t := ⟨f_is_joint, _, _, _⟩) rfl]
  have r1 := r_is_whole (k := k) (by omega) i
  have d1 : decide (0 ≤ i) = true := decide_eq_true h0
  have d2 : decide (i < n) = true := decide_eq_true h1
  simp (decide := true) only [runFd, f_is_joint, q_var, q_int, q_str, q_bl, q_non, q_glo, q_bin, q_neg, q_cmp, q_chain, q_and, q_or, q_not, q_ife, q_ix, q_cget, q_dix, q_orv, q_dicm, ky0, ky1, ne_app, q_dic, ne_ok, tr_non, tr_int, tr_lst, q_sl, q_rev, q_tup, q_lst, q_call, n_callN, n_evT, n_tmp, n_isTv, n_isT2, n_isTc, n_aV0, n_aVd, n_aVv, n_hT0, n_hTt, n_hTf, n_scB, n_scI, n_scN, n_scT, n_scL, n_scO, n_let0, n_letD, n_letV, n_letG, q_bf, q_isi, q_lcl, q_app, q_ext, q_pop, q_ins, q_an0, q_an1, q_or0, q_or1, q_ds0, q_ds1, q_os0, q_os1, q_as0, q_as1, q_seq, q_rng, q_zip, q_enu, q_rvd, q_asgN, q_asgT, q_par, q_par3, q_tr, q_trN, q_six, q_exp, q_ret, q_ite, q_rai, q_nil, q_cons, b_app, b_ok, b_bad, b_err, p_app, p_bad, l_some, o_var, f_app, t_app, d_sh, d_ow, r_d, r_v, bM_app, a_t, a_f, rs0, rs1, nx_app, o_int, m_int, o_str, m_str, o_bl, m_bl, o_non, m_non, o_glo, m_glo, o_bin, m_bin, o_neg, m_neg, o_cmp, m_cmp, o_chain, m_chain, o_and, m_and, o_or, m_or, o_not, m_not, o_ife, m_ife, o_ix, m_ix, o_cget, m_cget, o_sl, m_sl, o_orv, m_orv, o_dix, m_dix, o_dic, m_dic, o_tup, m_tup, o_lst, m_lst, o_call, m_call, o_bf, m_bf, o_isi, m_isi, o_lc, m_lc, o_lcl, m_lcl, o_pop, m_pop, o_rfd, m_rfd, m_var, k_add, k_sub, k_mul, k_div, k_mod, k_lt, k_le, k_gt, k_ge, k_isn, k_nisn, k_isb, k_nisb, k_rev, k_eqi, k_nei, x1_0, x2_0, x2_1, x3_0, x3_1, x3_2, x4_0, x4_1, x4_2, x4_3, y2_0, y2_1, y3_0, y3_1, y3_2, n_abs, n_int, n_max, n_min, n_len, n_lent, n_tup, n_all, z0, z1, z2, z3, z4, v_app, opV_app, resV_app, ioV_app, set_app, g0, g1, g2, gS, st0, stS, sz0, sz1, sz2, sz3, sz4, sz5, sz6, sz7, sz8, sz9, sz10, sz11, sz12, sz13, sz14, sz15, sz16, sz17, sz18, sz19, sz20, io_is_whole, io_is_fraction, io_divisor_of, io_pen_machine, io_is_joint, io_is_above, io_are_joints, io_is_step, io_is_machine, io__law_cell_at, io__law_state, io__law_take, io__law_divisor, io__law_ratio, io__law_plus, io__law_minus, io__law_times, io__law_over, io__law_small, io__law_above, io__law_four_rods, io__law_same, io_law, con_MOST_STEPS, asgM, callM, callR, ioIx, argSls, argSl, ioSl, callE, putOuts, outsOf, goodArgs, ioAt, startS, Ob.val, List.set_cons_zero, List.set_cons_succ, List.length_cons, List.length_nil, Nat.reduceAdd, Nat.reduceSub, Nat.reduceLT, Nat.sub_self, List.replicate_zero, List.replicate_succ, List.cons_append, List.nil_append, List.append_nil, reduceIte, Option.map_some, Option.map_none, List.not_mem_nil, List.nodup_nil, if_true, if_false, Bool.false_eq_true, eq_self, or_self, or_false, false_or, Bool.not_true, Bool.not_false, List.map_cons, List.map_nil, decide_true, decide_false, r1, d1, d2]
theorem r_isabove {k : Nat} (h : 3 ≤ k) {q : Rat} (h0 : 0 < q) : (calAt g.pr k).run i_is_above [.sh (fr q)] = .ok (.sh (.bool true)) [] := by
  obtain ⟨k, rfl⟩ := Nat.exists_eq_add_of_le' (show 1 ≤ k by omega)
  rw [rr k (t := ⟨f_is_above, _, _, _⟩) rfl]
  have r1 := r_is_fraction (k := k) (by omega) q
  have d1 : decide ((0 : Int) < q.num) = true := decide_eq_true (by
    have a := Rat.num_nonneg.mpr (Rat.le_of_lt h0)
    have b : q.num ≠ 0 := fun z => by
      have z := Rat.num_eq_zero.mp z
      subst z
      exact absurd h0 (by decide)
    omega)
  unfold fr at r1 ⊢
  simp (decide := true) only [runFd, f_is_above, q_var, q_int, q_str, q_bl, q_non, q_glo, q_bin, q_neg, q_cmp, q_chain, q_and, q_or, q_not, q_ife, q_ix, q_cget, q_dix, q_orv, q_dicm, ky0, ky1, ne_app, q_dic, ne_ok, tr_non, tr_int, tr_lst, q_sl, q_rev, q_tup, q_lst, q_call, n_callN, n_evT, n_tmp, n_isTv, n_isT2, n_isTc, n_aV0, n_aVd, n_aVv, n_hT0, n_hTt, n_hTf, n_scB, n_scI, n_scN, n_scT, n_scL, n_scO, n_let0, n_letD, n_letV, n_letG, q_bf, q_isi, q_lcl, q_app, q_ext, q_pop, q_ins, q_an0, q_an1, q_or0, q_or1, q_ds0, q_ds1, q_os0, q_os1, q_as0, q_as1, q_seq, q_rng, q_zip, q_enu, q_rvd, q_asgN, q_asgT, q_par, q_par3, q_tr, q_trN, q_six, q_exp, q_ret, q_ite, q_rai, q_nil, q_cons, b_app, b_ok, b_bad, b_err, p_app, p_bad, l_some, o_var, f_app, t_app, d_sh, d_ow, r_d, r_v, bM_app, a_t, a_f, rs0, rs1, nx_app, o_int, m_int, o_str, m_str, o_bl, m_bl, o_non, m_non, o_glo, m_glo, o_bin, m_bin, o_neg, m_neg, o_cmp, m_cmp, o_chain, m_chain, o_and, m_and, o_or, m_or, o_not, m_not, o_ife, m_ife, o_ix, m_ix, o_cget, m_cget, o_sl, m_sl, o_orv, m_orv, o_dix, m_dix, o_dic, m_dic, o_tup, m_tup, o_lst, m_lst, o_call, m_call, o_bf, m_bf, o_isi, m_isi, o_lc, m_lc, o_lcl, m_lcl, o_pop, m_pop, o_rfd, m_rfd, m_var, k_add, k_sub, k_mul, k_div, k_mod, k_lt, k_le, k_gt, k_ge, k_isn, k_nisn, k_isb, k_nisb, k_rev, k_eqi, k_nei, x1_0, x2_0, x2_1, x3_0, x3_1, x3_2, x4_0, x4_1, x4_2, x4_3, y2_0, y2_1, y3_0, y3_1, y3_2, n_abs, n_int, n_max, n_min, n_len, n_lent, n_tup, n_all, z0, z1, z2, z3, z4, v_app, opV_app, resV_app, ioV_app, set_app, g0, g1, g2, gS, st0, stS, sz0, sz1, sz2, sz3, sz4, sz5, sz6, sz7, sz8, sz9, sz10, sz11, sz12, sz13, sz14, sz15, sz16, sz17, sz18, sz19, sz20, io_is_whole, io_is_fraction, io_divisor_of, io_pen_machine, io_is_joint, io_is_above, io_are_joints, io_is_step, io_is_machine, io__law_cell_at, io__law_state, io__law_take, io__law_divisor, io__law_ratio, io__law_plus, io__law_minus, io__law_times, io__law_over, io__law_small, io__law_above, io__law_four_rods, io__law_same, io_law, con_MOST_STEPS, asgM, callM, callR, ioIx, argSls, argSl, ioSl, callE, putOuts, outsOf, goodArgs, ioAt, startS, Ob.val, List.set_cons_zero, List.set_cons_succ, List.length_cons, List.length_nil, Nat.reduceAdd, Nat.reduceSub, Nat.reduceLT, Nat.sub_self, List.replicate_zero, List.replicate_succ, List.cons_append, List.nil_append, List.append_nil, reduceIte, Option.map_some, Option.map_none, List.not_mem_nil, List.nodup_nil, if_true, if_false, Bool.false_eq_true, eq_self, or_self, or_false, false_or, Bool.not_true, Bool.not_false, List.map_cons, List.map_nil, decide_true, decide_false, r1, d1]
theorem r_joints {k : Nat} (h : 3 ≤ k) {i j n : Int} (h0 : 0 ≤ i) (h1 : i < n) (h2 : 0 ≤ j) (h3 : j < n) (h4 : i ≠ j) : (calAt g.pr k).run i_are_joints [.sh (.int i), .sh (.int j), .sh (.int n)] = .ok (.sh (.bool true)) [] := by
  obtain ⟨k, rfl⟩ := Nat.exists_eq_add_of_le' (show 1 ≤ k by omega)
  rw [rr k (t := ⟨f_are_joints, _, _, _⟩) rfl]
  have r1 := r_joint (k := k) (by omega) h0 h1
  have r2 := r_joint (k := k) (by omega) h2 h3
  have d1 : decide (i = j) = false := decide_eq_false h4
  simp (decide := true) only [runFd, f_are_joints, q_var, q_int, q_str, q_bl, q_non, q_glo, q_bin, q_neg, q_cmp, q_chain, q_and, q_or, q_not, q_ife, q_ix, q_cget, q_dix, q_orv, q_dicm, ky0, ky1, ne_app, q_dic, ne_ok, tr_non, tr_int, tr_lst, q_sl, q_rev, q_tup, q_lst, q_call, n_callN, n_evT, n_tmp, n_isTv, n_isT2, n_isTc, n_aV0, n_aVd, n_aVv, n_hT0, n_hTt, n_hTf, n_scB, n_scI, n_scN, n_scT, n_scL, n_scO, n_let0, n_letD, n_letV, n_letG, q_bf, q_isi, q_lcl, q_app, q_ext, q_pop, q_ins, q_an0, q_an1, q_or0, q_or1, q_ds0, q_ds1, q_os0, q_os1, q_as0, q_as1, q_seq, q_rng, q_zip, q_enu, q_rvd, q_asgN, q_asgT, q_par, q_par3, q_tr, q_trN, q_six, q_exp, q_ret, q_ite, q_rai, q_nil, q_cons, b_app, b_ok, b_bad, b_err, p_app, p_bad, l_some, o_var, f_app, t_app, d_sh, d_ow, r_d, r_v, bM_app, a_t, a_f, rs0, rs1, nx_app, o_int, m_int, o_str, m_str, o_bl, m_bl, o_non, m_non, o_glo, m_glo, o_bin, m_bin, o_neg, m_neg, o_cmp, m_cmp, o_chain, m_chain, o_and, m_and, o_or, m_or, o_not, m_not, o_ife, m_ife, o_ix, m_ix, o_cget, m_cget, o_sl, m_sl, o_orv, m_orv, o_dix, m_dix, o_dic, m_dic, o_tup, m_tup, o_lst, m_lst, o_call, m_call, o_bf, m_bf, o_isi, m_isi, o_lc, m_lc, o_lcl, m_lcl, o_pop, m_pop, o_rfd, m_rfd, m_var, k_add, k_sub, k_mul, k_div, k_mod, k_lt, k_le, k_gt, k_ge, k_isn, k_nisn, k_isb, k_nisb, k_rev, k_eqi, k_nei, x1_0, x2_0, x2_1, x3_0, x3_1, x3_2, x4_0, x4_1, x4_2, x4_3, y2_0, y2_1, y3_0, y3_1, y3_2, n_abs, n_int, n_max, n_min, n_len, n_lent, n_tup, n_all, z0, z1, z2, z3, z4, v_app, opV_app, resV_app, ioV_app, set_app, g0, g1, g2, gS, st0, stS, sz0, sz1, sz2, sz3, sz4, sz5, sz6, sz7, sz8, sz9, sz10, sz11, sz12, sz13, sz14, sz15, sz16, sz17, sz18, sz19, sz20, io_is_whole, io_is_fraction, io_divisor_of, io_pen_machine, io_is_joint, io_is_above, io_are_joints, io_is_step, io_is_machine, io__law_cell_at, io__law_state, io__law_take, io__law_divisor, io__law_ratio, io__law_plus, io__law_minus, io__law_times, io__law_over, io__law_small, io__law_above, io__law_four_rods, io__law_same, io_law, con_MOST_STEPS, asgM, callM, callR, ioIx, argSls, argSl, ioSl, callE, putOuts, outsOf, goodArgs, ioAt, startS, Ob.val, List.set_cons_zero, List.set_cons_succ, List.length_cons, List.length_nil, Nat.reduceAdd, Nat.reduceSub, Nat.reduceLT, Nat.sub_self, List.replicate_zero, List.replicate_succ, List.cons_append, List.nil_append, List.append_nil, reduceIte, Option.map_some, Option.map_none, List.not_mem_nil, List.nodup_nil, if_true, if_false, Bool.false_eq_true, eq_self, or_self, or_false, false_or, Bool.not_true, Bool.not_false, List.map_cons, List.map_nil, decide_true, decide_false, r1, r2, d1, k_nei]
/-! ### texts -/
theorem w_fc : cmpD .Eq (.str "fix") (.str "crank") = some false := by kernel_rfl
theorem w_ff : cmpD .Eq (.str "fix") (.str "fix") = some true := by kernel_rfl
theorem w_cf : cmpD .Eq (.str "crank") (.str "fix") = some false := by kernel_rfl
theorem w_cc : cmpD .Eq (.str "crank") (.str "crank") = some true := by kernel_rfl
theorem w_pp : cmpD .Eq (.str "pair") (.str "pair") = some true := by kernel_rfl
theorem w_pf : cmpD .Eq (.str "pair") (.str "fix") = some false := by kernel_rfl
theorem w_pc : cmpD .Eq (.str "pair") (.str "crank") = some false := by kernel_rfl
theorem w_pl : cmpD .Eq (.str "pair") (.str "like") = some false := by kernel_rfl
theorem w_lf : cmpD .Eq (.str "like") (.str "fix") = some false := by kernel_rfl
theorem w_lc : cmpD .Eq (.str "like") (.str "crank") = some false := by kernel_rfl
theorem w_ll : cmpD .Eq (.str "like") (.str "like") = some true := by kernel_rfl
abbrev tabL : List (Str × Int) := [("fix", 3), ("crank", 3), ("pair", 6), ("like", 5)]
theorem t_f : cgetD tabL (.str "fix") = some (.sh (.int 3)) := by kernel_rfl
theorem t_c : cgetD tabL (.str "crank") = some (.sh (.int 3)) := by kernel_rfl
theorem t_p : cgetD tabL (.str "pair") = some (.sh (.int 6)) := by kernel_rfl
theorem t_l : cgetD tabL (.str "like") = some (.sh (.int 5)) := by kernel_rfl
theorem e_tup {x : D} {xs : List D} (h : SeqAt.shaped (.tuple (x :: xs)) = true) : cmpD .Eq (.tuple (x :: xs)) (.tuple []) = some false := by
  show (if SeqAt.shaped (.tuple (x :: xs)) && SeqAt.shaped (.tuple []) then some (PyData.eqv (.tuple (x :: xs)) (.tuple [])) else none) = _
  rw [h]
  have e : PyData.eqv (.tuple (x :: xs)) (.tuple []) = false := by simp [PyData.eqv, PyData.eqvAll]
  rw [e]
  rfl
theorem ty_t (xs : List D) : [Ty.tuple].any (isTy (.tuple xs)) = true := rfl
theorem ty_s (x : Str) : [Ty.str].any (isTy (.str x)) = true := rfl
theorem x5_0 (a b c d e : D) : ixD (.tuple [a, b, c, d, e]) (.int 0) = some a := rfl
theorem x5_1 (a b c d e : D) : ixD (.tuple [a, b, c, d, e]) (.int 1) = some b := rfl
theorem x5_2 (a b c d e : D) : ixD (.tuple [a, b, c, d, e]) (.int 2) = some c := rfl
theorem x5_3 (a b c d e : D) : ixD (.tuple [a, b, c, d, e]) (.int 3) = some d := rfl
theorem x5_4 (a b c d e : D) : ixD (.tuple [a, b, c, d, e]) (.int 4) = some e := rfl
theorem x6_0 (a b c d e f : D) : ixD (.tuple [a, b, c, d, e, f]) (.int 0) = some a := rfl
theorem x6_1 (a b c d e f : D) : ixD (.tuple [a, b, c, d, e, f]) (.int 1) = some b := rfl
theorem x6_2 (a b c d e f : D) : ixD (.tuple [a, b, c, d, e, f]) (.int 2) = some c := rfl
theorem x6_3 (a b c d e f : D) : ixD (.tuple [a, b, c, d, e, f]) (.int 3) = some d := rfl
theorem x6_4 (a b c d e f : D) : ixD (.tuple [a, b, c, d, e, f]) (.int 4) = some e := rfl
theorem x6_5 (a b c d e f : D) : ixD (.tuple [a, b, c, d, e, f]) (.int 5) = some f := rfl
theorem l2t (a b : D) : bfD .len [.tuple [a, b]] = some (.sh (.int 2)) := rfl
theorem l3t (a b c : D) : bfD .len [.tuple [a, b, c]] = some (.sh (.int 3)) := rfl
theorem l4t (a b c d : D) : bfD .len [.tuple [a, b, c, d]] = some (.sh (.int 4)) := rfl
theorem l5t (a b c d e : D) : bfD .len [.tuple [a, b, c, d, e]] = some (.sh (.int 5)) := rfl
theorem l6t (a b c d e f : D) : bfD .len [.tuple [a, b, c, d, e, f]] = some (.sh (.int 6)) := rfl
theorem r_fix {k : Nat} (h : 3 ≤ k) (a b : Rat) (ah : D) : (calAt g.pr k).run i_is_step [.sh (sFix (fr a) (fr b)), .sh ah] = .ok (.sh (.bool true)) [] := by
  obtain ⟨k, rfl⟩ := Nat.exists_eq_add_of_le' (show 1 ≤ k by omega)
  rw [rr k (t := ⟨f_is_step, _, _, _⟩) rfl]
  have r1 := r_is_fraction (k := k) (by omega) a
  have r2 := r_is_fraction (k := k) (by omega) b
  have et : cmpD .Eq (sFix (fr a) (fr b)) (.tuple []) = some false := e_tup (by unfold fr; simp [SeqAt.shaped, PyData.canLay0, PyData.canLayAll0, PyData.depth, PyData.depthAll]; kernel_rfl)
  generalize fr a = x at *
  generalize fr b = y at *
  simp (decide := true) only [runFd, f_is_step, q_var, q_int, q_str, q_bl, q_non, q_glo, q_bin, q_neg, q_cmp, q_chain, q_and, q_or, q_not, q_ife, q_ix, q_cget, q_dix, q_orv, q_dicm, ky0, ky1, ne_app, q_dic, ne_ok, tr_non, tr_int, tr_lst, q_sl, q_rev, q_tup, q_lst, q_call, n_callN, n_evT, n_tmp, n_isTv, n_isT2, n_isTc, n_aV0, n_aVd, n_aVv, n_hT0, n_hTt, n_hTf, n_scB, n_scI, n_scN, n_scT, n_scL, n_scO, n_let0, n_letD, n_letV, n_letG, q_bf, q_isi, q_lcl, q_app, q_ext, q_pop, q_ins, q_an0, q_an1, q_or0, q_or1, q_ds0, q_ds1, q_os0, q_os1, q_as0, q_as1, q_seq, q_rng, q_zip, q_enu, q_rvd, q_asgN, q_asgT, q_par, q_par3, q_tr, q_trN, q_six, q_exp, q_ret, q_ite, q_rai, q_nil, q_cons, b_app, b_ok, b_bad, b_err, p_app, p_bad, l_some, o_var, f_app, t_app, d_sh, d_ow, r_d, r_v, bM_app, a_t, a_f, rs0, rs1, nx_app, o_int, m_int, o_str, m_str, o_bl, m_bl, o_non, m_non, o_glo, m_glo, o_bin, m_bin, o_neg, m_neg, o_cmp, m_cmp, o_chain, m_chain, o_and, m_and, o_or, m_or, o_not, m_not, o_ife, m_ife, o_ix, m_ix, o_cget, m_cget, o_sl, m_sl, o_orv, m_orv, o_dix, m_dix, o_dic, m_dic, o_tup, m_tup, o_lst, m_lst, o_call, m_call, o_bf, m_bf, o_isi, m_isi, o_lc, m_lc, o_lcl, m_lcl, o_pop, m_pop, o_rfd, m_rfd, m_var, k_add, k_sub, k_mul, k_div, k_mod, k_lt, k_le, k_gt, k_ge, k_isn, k_nisn, k_isb, k_nisb, k_rev, k_eqi, k_nei, x1_0, x2_0, x2_1, x3_0, x3_1, x3_2, x4_0, x4_1, x4_2, x4_3, y2_0, y2_1, y3_0, y3_1, y3_2, n_abs, n_int, n_max, n_min, n_len, n_lent, n_tup, n_all, z0, z1, z2, z3, z4, v_app, opV_app, resV_app, ioV_app, set_app, g0, g1, g2, gS, st0, stS, sz0, sz1, sz2, sz3, sz4, sz5, sz6, sz7, sz8, sz9, sz10, sz11, sz12, sz13, sz14, sz15, sz16, sz17, sz18, sz19, sz20, io_is_whole, io_is_fraction, io_divisor_of, io_pen_machine, io_is_joint, io_is_above, io_are_joints, io_is_step, io_is_machine, io__law_cell_at, io__law_state, io__law_take, io__law_divisor, io__law_ratio, io__law_plus, io__law_minus, io__law_times, io__law_over, io__law_small, io__law_above, io__law_four_rods, io__law_same, io_law, con_MOST_STEPS, asgM, callM, callR, ioIx, argSls, argSl, ioSl, callE, putOuts, outsOf, goodArgs, ioAt, startS, Ob.val, List.set_cons_zero, List.set_cons_succ, List.length_cons, List.length_nil, Nat.reduceAdd, Nat.reduceSub, Nat.reduceLT, Nat.sub_self, List.replicate_zero, List.replicate_succ, List.cons_append, List.nil_append, List.append_nil, reduceIte, Option.map_some, Option.map_none, List.not_mem_nil, List.nodup_nil, if_true, if_false, Bool.false_eq_true, eq_self, or_self, or_false, false_or, Bool.not_true, Bool.not_false, List.map_cons, List.map_nil, decide_true, decide_false, ty_t, ty_s, et, t_f, l3t, w_ff, r1, r2, k_nei]
theorem r_crank {k : Nat} (h : 4 ≤ k) {c : Rat} (h0 : 0 < c) (a b x : D) : (calAt g.pr k).run i_is_step [.sh (sCrank (fr c)), .sh (.tuple [sFix a b, x])] = .ok (.sh (.bool true)) [] := by
  obtain ⟨k, rfl⟩ := Nat.exists_eq_add_of_le' (show 1 ≤ k by omega)
  rw [rr k (t := ⟨f_is_step, _, _, _⟩) rfl]
  have r1 := r_isabove (k := k) (by omega) h0
  have r2 := r_joint (k := k) (by omega) (i := 0) (n := ((2 : Nat) : Int)) (by decide) (by decide)
  have et : cmpD .Eq (sCrank (fr c)) (.tuple []) = some false := e_tup (by unfold fr; simp [SeqAt.shaped, PyData.canLay0, PyData.canLayAll0, PyData.depth, PyData.depthAll]; kernel_rfl)
  generalize fr c = y at *
  simp (decide := true) only [runFd, f_is_step, q_var, q_int, q_str, q_bl, q_non, q_glo, q_bin, q_neg, q_cmp, q_chain, q_and, q_or, q_not, q_ife, q_ix, q_cget, q_dix, q_orv, q_dicm, ky0, ky1, ne_app, q_dic, ne_ok, tr_non, tr_int, tr_lst, q_sl, q_rev, q_tup, q_lst, q_call, n_callN, n_evT, n_tmp, n_isTv, n_isT2, n_isTc, n_aV0, n_aVd, n_aVv, n_hT0, n_hTt, n_hTf, n_scB, n_scI, n_scN, n_scT, n_scL, n_scO, n_let0, n_letD, n_letV, n_letG, q_bf, q_isi, q_lcl, q_app, q_ext, q_pop, q_ins, q_an0, q_an1, q_or0, q_or1, q_ds0, q_ds1, q_os0, q_os1, q_as0, q_as1, q_seq, q_rng, q_zip, q_enu, q_rvd, q_asgN, q_asgT, q_par, q_par3, q_tr, q_trN, q_six, q_exp, q_ret, q_ite, q_rai, q_nil, q_cons, b_app, b_ok, b_bad, b_err, p_app, p_bad, l_some, o_var, f_app, t_app, d_sh, d_ow, r_d, r_v, bM_app, a_t, a_f, rs0, rs1, nx_app, o_int, m_int, o_str, m_str, o_bl, m_bl, o_non, m_non, o_glo, m_glo, o_bin, m_bin, o_neg, m_neg, o_cmp, m_cmp, o_chain, m_chain, o_and, m_and, o_or, m_or, o_not, m_not, o_ife, m_ife, o_ix, m_ix, o_cget, m_cget, o_sl, m_sl, o_orv, m_orv, o_dix, m_dix, o_dic, m_dic, o_tup, m_tup, o_lst, m_lst, o_call, m_call, o_bf, m_bf, o_isi, m_isi, o_lc, m_lc, o_lcl, m_lcl, o_pop, m_pop, o_rfd, m_rfd, m_var, k_add, k_sub, k_mul, k_div, k_mod, k_lt, k_le, k_gt, k_ge, k_isn, k_nisn, k_isb, k_nisb, k_rev, k_eqi, k_nei, x1_0, x2_0, x2_1, x3_0, x3_1, x3_2, x4_0, x4_1, x4_2, x4_3, y2_0, y2_1, y3_0, y3_1, y3_2, n_abs, n_int, n_max, n_min, n_len, n_lent, n_tup, n_all, z0, z1, z2, z3, z4, v_app, opV_app, resV_app, ioV_app, set_app, g0, g1, g2, gS, st0, stS, sz0, sz1, sz2, sz3, sz4, sz5, sz6, sz7, sz8, sz9, sz10, sz11, sz12, sz13, sz14, sz15, sz16, sz17, sz18, sz19, sz20, io_is_whole, io_is_fraction, io_divisor_of, io_pen_machine, io_is_joint, io_is_above, io_are_joints, io_is_step, io_is_machine, io__law_cell_at, io__law_state, io__law_take, io__law_divisor, io__law_ratio, io__law_plus, io__law_minus, io__law_times, io__law_over, io__law_small, io__law_above, io__law_four_rods, io__law_same, io_law, con_MOST_STEPS, asgM, callM, callR, ioIx, argSls, argSl, ioSl, callE, putOuts, outsOf, goodArgs, ioAt, startS, Ob.val, List.set_cons_zero, List.set_cons_succ, List.length_cons, List.length_nil, Nat.reduceAdd, Nat.reduceSub, Nat.reduceLT, Nat.sub_self, List.replicate_zero, List.replicate_succ, List.cons_append, List.nil_append, List.append_nil, reduceIte, Option.map_some, Option.map_none, List.not_mem_nil, List.nodup_nil, if_true, if_false, Bool.false_eq_true, eq_self, or_self, or_false, false_or, Bool.not_true, Bool.not_false, List.map_cons, List.map_nil, decide_true, decide_false, ty_t, ty_s, et, t_c, l3t, l2t, w_cf, w_cc, w_ff, r1, r2, k_nei]
theorem r_pair {k : Nat} (h : 4 ≤ k) {u v : Rat} (h0 : 0 < u) (h1 : 0 < v) {e : Int} (e0 : 0 ≤ e) (e1 : e ≤ 1) (x y z : D) : (calAt g.pr k).run i_is_step [.sh (sPair (fr u) (fr v) e), .sh (.tuple [x, y, z])] = .ok (.sh (.bool true)) [] := by
  obtain ⟨k, rfl⟩ := Nat.exists_eq_add_of_le' (show 1 ≤ k by omega)
  rw [rr k (t := ⟨f_is_step, _, _, _⟩) rfl]
  have r1 := r_isabove (k := k) (by omega) h0
  have r2 := r_isabove (k := k) (by omega) h1
  have r3 := r_joints (k := k) (by omega) (i := 2) (j := 1) (n := ((3 : Nat) : Int)) (by decide) (by decide) (by decide) (by decide) (by decide)
  have r4 := r_is_whole (k := k) (by omega) e
  have d1 : decide (0 ≤ e) = true := decide_eq_true e0
  have d2 : decide (e ≤ 1) = true := decide_eq_true e1
  have et : cmpD .Eq (sPair (fr u) (fr v) e) (.tuple []) = some false := e_tup (by unfold fr; simp [SeqAt.shaped, PyData.canLay0, PyData.canLayAll0, PyData.depth, PyData.depthAll]; kernel_rfl)
  generalize fr u = m at *
  generalize fr v = n at *
  simp (decide := true) only [runFd, f_is_step, q_var, q_int, q_str, q_bl, q_non, q_glo, q_bin, q_neg, q_cmp, q_chain, q_and, q_or, q_not, q_ife, q_ix, q_cget, q_dix, q_orv, q_dicm, ky0, ky1, ne_app, q_dic, ne_ok, tr_non, tr_int, tr_lst, q_sl, q_rev, q_tup, q_lst, q_call, n_callN, n_evT, n_tmp, n_isTv, n_isT2, n_isTc, n_aV0, n_aVd, n_aVv, n_hT0, n_hTt, n_hTf, n_scB, n_scI, n_scN, n_scT, n_scL, n_scO, n_let0, n_letD, n_letV, n_letG, q_bf, q_isi, q_lcl, q_app, q_ext, q_pop, q_ins, q_an0, q_an1, q_or0, q_or1, q_ds0, q_ds1, q_os0, q_os1, q_as0, q_as1, q_seq, q_rng, q_zip, q_enu, q_rvd, q_asgN, q_asgT, q_par, q_par3, q_tr, q_trN, q_six, q_exp, q_ret, q_ite, q_rai, q_nil, q_cons, b_app, b_ok, b_bad, b_err, p_app, p_bad, l_some, o_var, f_app, t_app, d_sh, d_ow, r_d, r_v, bM_app, a_t, a_f, rs0, rs1, nx_app, o_int, m_int, o_str, m_str, o_bl, m_bl, o_non, m_non, o_glo, m_glo, o_bin, m_bin, o_neg, m_neg, o_cmp, m_cmp, o_chain, m_chain, o_and, m_and, o_or, m_or, o_not, m_not, o_ife, m_ife, o_ix, m_ix, o_cget, m_cget, o_sl, m_sl, o_orv, m_orv, o_dix, m_dix, o_dic, m_dic, o_tup, m_tup, o_lst, m_lst, o_call, m_call, o_bf, m_bf, o_isi, m_isi, o_lc, m_lc, o_lcl, m_lcl, o_pop, m_pop, o_rfd, m_rfd, m_var, k_add, k_sub, k_mul, k_div, k_mod, k_lt, k_le, k_gt, k_ge, k_isn, k_nisn, k_isb, k_nisb, k_rev, k_eqi, k_nei, x1_0, x2_0, x2_1, x3_0, x3_1, x3_2, x4_0, x4_1, x4_2, x4_3, y2_0, y2_1, y3_0, y3_1, y3_2, n_abs, n_int, n_max, n_min, n_len, n_lent, n_tup, n_all, z0, z1, z2, z3, z4, v_app, opV_app, resV_app, ioV_app, set_app, g0, g1, g2, gS, st0, stS, sz0, sz1, sz2, sz3, sz4, sz5, sz6, sz7, sz8, sz9, sz10, sz11, sz12, sz13, sz14, sz15, sz16, sz17, sz18, sz19, sz20, io_is_whole, io_is_fraction, io_divisor_of, io_pen_machine, io_is_joint, io_is_above, io_are_joints, io_is_step, io_is_machine, io__law_cell_at, io__law_state, io__law_take, io__law_divisor, io__law_ratio, io__law_plus, io__law_minus, io__law_times, io__law_over, io__law_small, io__law_above, io__law_four_rods, io__law_same, io_law, con_MOST_STEPS, asgM, callM, callR, ioIx, argSls, argSl, ioSl, callE, putOuts, outsOf, goodArgs, ioAt, startS, Ob.val, List.set_cons_zero, List.set_cons_succ, List.length_cons, List.length_nil, Nat.reduceAdd, Nat.reduceSub, Nat.reduceLT, Nat.sub_self, List.replicate_zero, List.replicate_succ, List.cons_append, List.nil_append, List.append_nil, reduceIte, Option.map_some, Option.map_none, List.not_mem_nil, List.nodup_nil, if_true, if_false, Bool.false_eq_true, eq_self, or_self, or_false, false_or, Bool.not_true, Bool.not_false, List.map_cons, List.map_nil, decide_true, decide_false, ty_t, ty_s, et, t_p, l6t, l3t, w_pf, w_pc, w_pl, r1, r2, r3, r4, k_nei, x6_0, x6_1, x6_2, x6_3, x6_4, x6_5, d1, d2]
theorem r_like {k : Nat} (h : 4 ≤ k) (p q : Rat) (x y z w : D) : (calAt g.pr k).run i_is_step [.sh (sLike (fr p) (fr q)), .sh (.tuple [x, y, z, w])] = .ok (.sh (.bool true)) [] := by
  obtain ⟨k, rfl⟩ := Nat.exists_eq_add_of_le' (show 1 ≤ k by omega)
  rw [rr k (t := ⟨f_is_step, _, _, _⟩) rfl]
  have r1 := r_is_fraction (k := k) (by omega) p
  have r2 := r_is_fraction (k := k) (by omega) q
  have r3 := r_joints (k := k) (by omega) (i := 2) (j := 3) (n := ((4 : Nat) : Int)) (by decide) (by decide) (by decide) (by decide) (by decide)
  have et : cmpD .Eq (sLike (fr p) (fr q)) (.tuple []) = some false := e_tup (by unfold fr; simp [SeqAt.shaped, PyData.canLay0, PyData.canLayAll0, PyData.depth, PyData.depthAll]; kernel_rfl)
  generalize fr p = m at *
  generalize fr q = n at *
  simp (decide := true) only [runFd, f_is_step, q_var, q_int, q_str, q_bl, q_non, q_glo, q_bin, q_neg, q_cmp, q_chain, q_and, q_or, q_not, q_ife, q_ix, q_cget, q_dix, q_orv, q_dicm, ky0, ky1, ne_app, q_dic, ne_ok, tr_non, tr_int, tr_lst, q_sl, q_rev, q_tup, q_lst, q_call, n_callN, n_evT, n_tmp, n_isTv, n_isT2, n_isTc, n_aV0, n_aVd, n_aVv, n_hT0, n_hTt, n_hTf, n_scB, n_scI, n_scN, n_scT, n_scL, n_scO, n_let0, n_letD, n_letV, n_letG, q_bf, q_isi, q_lcl, q_app, q_ext, q_pop, q_ins, q_an0, q_an1, q_or0, q_or1, q_ds0, q_ds1, q_os0, q_os1, q_as0, q_as1, q_seq, q_rng, q_zip, q_enu, q_rvd, q_asgN, q_asgT, q_par, q_par3, q_tr, q_trN, q_six, q_exp, q_ret, q_ite, q_rai, q_nil, q_cons, b_app, b_ok, b_bad, b_err, p_app, p_bad, l_some, o_var, f_app, t_app, d_sh, d_ow, r_d, r_v, bM_app, a_t, a_f, rs0, rs1, nx_app, o_int, m_int, o_str, m_str, o_bl, m_bl, o_non, m_non, o_glo, m_glo, o_bin, m_bin, o_neg, m_neg, o_cmp, m_cmp, o_chain, m_chain, o_and, m_and, o_or, m_or, o_not, m_not, o_ife, m_ife, o_ix, m_ix, o_cget, m_cget, o_sl, m_sl, o_orv, m_orv, o_dix, m_dix, o_dic, m_dic, o_tup, m_tup, o_lst, m_lst, o_call, m_call, o_bf, m_bf, o_isi, m_isi, o_lc, m_lc, o_lcl, m_lcl, o_pop, m_pop, o_rfd, m_rfd, m_var, k_add, k_sub, k_mul, k_div, k_mod, k_lt, k_le, k_gt, k_ge, k_isn, k_nisn, k_isb, k_nisb, k_rev, k_eqi, k_nei, x1_0, x2_0, x2_1, x3_0, x3_1, x3_2, x4_0, x4_1, x4_2, x4_3, y2_0, y2_1, y3_0, y3_1, y3_2, n_abs, n_int, n_max, n_min, n_len, n_lent, n_tup, n_all, z0, z1, z2, z3, z4, v_app, opV_app, resV_app, ioV_app, set_app, g0, g1, g2, gS, st0, stS, sz0, sz1, sz2, sz3, sz4, sz5, sz6, sz7, sz8, sz9, sz10, sz11, sz12, sz13, sz14, sz15, sz16, sz17, sz18, sz19, sz20, io_is_whole, io_is_fraction, io_divisor_of, io_pen_machine, io_is_joint, io_is_above, io_are_joints, io_is_step, io_is_machine, io__law_cell_at, io__law_state, io__law_take, io__law_divisor, io__law_ratio, io__law_plus, io__law_minus, io__law_times, io__law_over, io__law_small, io__law_above, io__law_four_rods, io__law_same, io_law, con_MOST_STEPS, asgM, callM, callR, ioIx, argSls, argSl, ioSl, callE, putOuts, outsOf, goodArgs, ioAt, startS, Ob.val, List.set_cons_zero, List.set_cons_succ, List.length_cons, List.length_nil, Nat.reduceAdd, Nat.reduceSub, Nat.reduceLT, Nat.sub_self, List.replicate_zero, List.replicate_succ, List.cons_append, List.nil_append, List.append_nil, reduceIte, Option.map_some, Option.map_none, List.not_mem_nil, List.nodup_nil, if_true, if_false, Bool.false_eq_true, eq_self, or_self, or_false, false_or, Bool.not_true, Bool.not_false, List.map_cons, List.map_nil, decide_true, decide_false, ty_t, ty_s, et, t_l, l5t, l4t, w_lf, w_lc, w_ll, r1, r2, r3, k_nei, x5_0, x5_1, x5_2, x5_3, x5_4]
end Lw
set_option Elab.async false
set_option linter.all false
set_option maxRecDepth 100000
set_option maxHeartbeats 400000
/-! The machine of five steps. -/
namespace Lw
open PySem Hg
theorem p_varM' {i : Nat} {m : M Sl} {s : S} : partM (.var i) m s = (frz m s).bind fun d s1 => (match d with
  | .int i => R.ok (some i) s1
  | _ => .bad) := by
  show ((frz m).bind _) s = _
  unfold M.bind
  congr 1
  funext d s1
  cases d <;> rfl
theorem m_turn {k : Nat} (m s : D) (i : Int) (ah : List D) (x1 x2 : Sl) (hs : slD m none (some i) = some (.sh (.tuple ah))) (r : (calAt g.pr k).run i_is_step [.sh s, .sh (.tuple ah)] = .ok (.sh (.bool true)) []) :
    ((putT (.tup (.cons (.name 2) (.cons (.name 1) .nil))) (.tuple [.int i, s])).bind fun _ => evSs (calAt g.pr k) [] b1_is_machine) [.sh m, x1, x2] = .ok .nx [.sh m, .sh s, .sh (.int i)] := by
  simp (decide := true) only [b1_is_machine, q_var, q_int, q_str, q_bl, q_non, q_glo, q_bin, q_neg, q_cmp, q_chain, q_and, q_or, q_not, q_ife, q_ix, q_cget, q_dix, q_orv, q_dicm, ky0, ky1, ne_app, q_dic, ne_ok, tr_non, tr_int, tr_lst, q_sl, q_rev, q_tup, q_lst, q_call, n_callN, n_evT, n_tmp, n_isTv, n_isT2, n_isTc, n_aV0, n_aVd, n_aVv, n_hT0, n_hTt, n_hTf, n_scB, n_scI, n_scN, n_scT, n_scL, n_scO, n_let0, n_letD, n_letV, n_letG, q_bf, q_isi, q_lcl, q_app, q_ext, q_pop, q_ins, q_an0, q_an1, q_or0, q_or1, q_ds0, q_ds1, q_os0, q_os1, q_as0, q_as1, q_seq, q_rng, q_zip, q_enu, q_rvd, q_asgN, q_asgT, q_par, q_par3, q_tr, q_trN, q_six, q_exp, q_ret, q_ite, q_rai, q_nil, q_cons, b_app, b_ok, b_bad, b_err, p_app, p_bad, l_some, o_var, f_app, t_app, d_sh, d_ow, r_d, r_v, bM_app, a_t, a_f, rs0, rs1, nx_app, o_int, m_int, o_str, m_str, o_bl, m_bl, o_non, m_non, o_glo, m_glo, o_bin, m_bin, o_neg, m_neg, o_cmp, m_cmp, o_chain, m_chain, o_and, m_and, o_or, m_or, o_not, m_not, o_ife, m_ife, o_ix, m_ix, o_cget, m_cget, o_sl, m_sl, o_orv, m_orv, o_dix, m_dix, o_dic, m_dic, o_tup, m_tup, o_lst, m_lst, o_call, m_call, o_bf, m_bf, o_isi, m_isi, o_lc, m_lc, o_lcl, m_lcl, o_pop, m_pop, o_rfd, m_rfd, m_var, k_add, k_sub, k_mul, k_div, k_mod, k_lt, k_le, k_gt, k_ge, k_isn, k_nisn, k_isb, k_nisb, k_rev, k_eqi, k_nei, x1_0, x2_0, x2_1, x3_0, x3_1, x3_2, x4_0, x4_1, x4_2, x4_3, y2_0, y2_1, y3_0, y3_1, y3_2, n_abs, n_int, n_max, n_min, n_len, n_lent, n_tup, n_all, z0, z1, z2, z3, z4, v_app, opV_app, resV_app, ioV_app, set_app, g0, g1, g2, gS, st0, stS, sz0, sz1, sz2, sz3, sz4, sz5, sz6, sz7, sz8, sz9, sz10, sz11, sz12, sz13, sz14, sz15, sz16, sz17, sz18, sz19, sz20, io_is_whole, io_is_fraction, io_divisor_of, io_pen_machine, io_is_joint, io_is_above, io_are_joints, io_is_step, io_is_machine, io__law_cell_at, io__law_state, io__law_take, io__law_divisor, io__law_ratio, io__law_plus, io__law_minus, io__law_times, io__law_over, io__law_small, io__law_above, io__law_four_rods, io__law_same, io_law, con_MOST_STEPS, asgM, callM, callR, ioIx, argSls, argSl, ioSl, callE, putOuts, outsOf, goodArgs, ioAt, startS, Ob.val, List.set_cons_zero, List.set_cons_succ, List.length_cons, List.length_nil, Nat.reduceAdd, Nat.reduceSub, Nat.reduceLT, Nat.sub_self, List.replicate_zero, List.replicate_succ, List.cons_append, List.nil_append, List.append_nil, reduceIte, Option.map_some, Option.map_none, List.not_mem_nil, List.nodup_nil, if_true, if_false, Bool.false_eq_true, eq_self, or_self, or_false, false_or, Bool.not_true, Bool.not_false, List.map_cons, List.map_nil, decide_true, decide_false, q_pt, q_pt2, p_non, p_varM', hs, r]
theorem r_machine {k : Nat} (h : 5 ≤ k) {a b c d r u v p q : Rat} (r0 : 0 < r) (u0 : 0 < u) (v0 : 0 < v) {e : Int} (e0 : 0 ≤ e) (e1 : e ≤ 1) :
    (calAt g.pr k).run i_is_machine [.sh (.tuple [sFix (fr a) (fr b), sFix (fr c) (fr d), sCrank (fr r), sPair (fr u) (fr v) e, sLike (fr p) (fr q)])] = .ok (.sh (.bool true)) [] := by
  obtain ⟨k, rfl⟩ := Nat.exists_eq_add_of_le' (show 1 ≤ k by omega)
  rw [rr k (t := ⟨f_is_machine, _, _, _⟩) rfl]
  have w1 := r_fix (k := k) (by omega) a b (.tuple [])
  have w2 := r_fix (k := k) (by omega) c d (.tuple [sFix (fr a) (fr b)])
  have w3 := r_crank (k := k) (by omega) r0 (fr a) (fr b) (sFix (fr c) (fr d))
  have w4 := r_pair (k := k) (by omega) u0 v0 e0 e1 (sFix (fr a) (fr b)) (sFix (fr c) (fr d)) (sCrank (fr r))
  have w5 := r_like (k := k) (by omega) p q (sFix (fr a) (fr b)) (sFix (fr c) (fr d)) (sCrank (fr r)) (sPair (fr u) (fr v) e)
  generalize sFix (fr a) (fr b) = t1 at *
  generalize sFix (fr c) (fr d) = t2 at *
  generalize sCrank (fr r) = t3 at *
  generalize sPair (fr u) (fr v) e = t4 at *
  generalize sLike (fr p) (fr q) = t5 at *
  have src : evSrc (calAt g.pr k) (.enu (.var 0)) [.sh (.tuple [t1, t2, t3, t4, t5]), .un, .un] = .ok [.tuple [.int 0, t1], .tuple [.int 1, t2], .tuple [.int 2, t3], .tuple [.int 3, t4], .tuple [.int 4, t5]] [.sh (.tuple [t1, t2, t3, t4, t5]), .un, .un] := rfl
  have lp : evS (calAt g.pr k) [] l0_is_machine [.sh (.tuple [t1, t2, t3, t4, t5]), .un, .un] = .ok .nx [.sh (.tuple [t1, t2, t3, t4, t5]), .sh t5, .sh (.int 4)] := by
    refine fo_of rfl src ?_
    rw [foGo_t (m_turn _ t1 0 [] _ _ rfl w1), foGo_t (m_turn _ t2 1 [t1] _ _ rfl w2), foGo_t (m_turn _ t3 2 [t1, t2] _ _ rfl w3), foGo_t (m_turn _ t4 3 [t1, t2, t3] _ _ rfl w4), foGo_t (m_turn _ t5 4 [t1, t2, t3, t4] _ _ rfl w5)]
    rfl
  have cm : (calAt g.pr k).con "MOST_STEPS" = some (.int 7) := con_MOST_STEPS
  have c1 : cmpD .LtE (.int 1) (.int ((5 : Nat) : Int)) = some true := rfl
  have c2 : cmpD .LtE (.int ((5 : Nat) : Int)) (.int 7) = some true := rfl
  simp (decide := true) only [runFd, f_is_machine, q_var, q_int, q_str, q_bl, q_non, q_glo, q_bin, q_neg, q_cmp, q_chain, q_and, q_or, q_not, q_ife, q_ix, q_cget, q_dix, q_orv, q_dicm, ky0, ky1, ne_app, q_dic, ne_ok, tr_non, tr_int, tr_lst, q_sl, q_rev, q_tup, q_lst, q_call, n_callN, n_evT, n_tmp, n_isTv, n_isT2, n_isTc, n_aV0, n_aVd, n_aVv, n_hT0, n_hTt, n_hTf, n_scB, n_scI, n_scN, n_scT, n_scL, n_scO, n_let0, n_letD, n_letV, n_letG, q_bf, q_isi, q_lcl, q_app, q_ext, q_pop, q_ins, q_an0, q_an1, q_or0, q_or1, q_ds0, q_ds1, q_os0, q_os1, q_as0, q_as1, q_seq, q_rng, q_zip, q_enu, q_rvd, q_asgN, q_asgT, q_par, q_par3, q_tr, q_trN, q_six, q_exp, q_ret, q_ite, q_rai, q_nil, q_cons, b_app, b_ok, b_bad, b_err, p_app, p_bad, l_some, o_var, f_app, t_app, d_sh, d_ow, r_d, r_v, bM_app, a_t, a_f, rs0, rs1, nx_app, o_int, m_int, o_str, m_str, o_bl, m_bl, o_non, m_non, o_glo, m_glo, o_bin, m_bin, o_neg, m_neg, o_cmp, m_cmp, o_chain, m_chain, o_and, m_and, o_or, m_or, o_not, m_not, o_ife, m_ife, o_ix, m_ix, o_cget, m_cget, o_sl, m_sl, o_orv, m_orv, o_dix, m_dix, o_dic, m_dic, o_tup, m_tup, o_lst, m_lst, o_call, m_call, o_bf, m_bf, o_isi, m_isi, o_lc, m_lc, o_lcl, m_lcl, o_pop, m_pop, o_rfd, m_rfd, m_var, k_add, k_sub, k_mul, k_div, k_mod, k_lt, k_le, k_gt, k_ge, k_isn, k_nisn, k_isb, k_nisb, k_rev, k_eqi, k_nei, x1_0, x2_0, x2_1, x3_0, x3_1, x3_2, x4_0, x4_1, x4_2, x4_3, y2_0, y2_1, y3_0, y3_1, y3_2, n_abs, n_int, n_max, n_min, n_len, n_lent, n_tup, n_all, z0, z1, z2, z3, z4, v_app, opV_app, resV_app, ioV_app, set_app, g0, g1, g2, gS, st0, stS, sz0, sz1, sz2, sz3, sz4, sz5, sz6, sz7, sz8, sz9, sz10, sz11, sz12, sz13, sz14, sz15, sz16, sz17, sz18, sz19, sz20, io_is_whole, io_is_fraction, io_divisor_of, io_pen_machine, io_is_joint, io_is_above, io_are_joints, io_is_step, io_is_machine, io__law_cell_at, io__law_state, io__law_take, io__law_divisor, io__law_ratio, io__law_plus, io__law_minus, io__law_times, io__law_over, io__law_small, io__law_above, io__law_four_rods, io__law_same, io_law, con_MOST_STEPS, asgM, callM, callR, ioIx, argSls, argSl, ioSl, callE, putOuts, outsOf, goodArgs, ioAt, startS, Ob.val, List.set_cons_zero, List.set_cons_succ, List.length_cons, List.length_nil, Nat.reduceAdd, Nat.reduceSub, Nat.reduceLT, Nat.sub_self, List.replicate_zero, List.replicate_succ, List.cons_append, List.nil_append, List.append_nil, reduceIte, Option.map_some, Option.map_none, List.not_mem_nil, List.nodup_nil, if_true, if_false, Bool.false_eq_true, eq_self, or_self, or_false, false_or, Bool.not_true, Bool.not_false, List.map_cons, List.map_nil, decide_true, decide_false, ty_t, n_lent, cm, lp, List.length_cons, List.length_nil]
/-! ### the law -/
theorem same_tupL {k : Nat} (h : 2 ≤ k) {L : List D} (hl : L.length < sizeLine) (hx : ∀ v ∈ L, ∀ j, k ≤ j + 1 → (calAt g.pr j).run i__law_same [.sh v, .sh v] = .ok (.sh (.bool true)) []) :
    (calAt g.pr k).run i__law_same [.sh (.tuple L), .sh (.tuple L)] = .ok (.sh (.bool true)) [] := by
  obtain ⟨k, rfl⟩ := Nat.exists_eq_add_of_le' (show 1 ≤ k by omega)
  rw [rr k (t := ⟨f__law_same, _, _, _⟩) rfl]
  have t1 : [Ty.tuple, Ty.list].any (isTy (.tuple L)) = true := rfl
  have t2 : [Ty.tuple].any (isTy (.tuple L)) = true := rfl
  have t3 : [Ty.list].any (isTy (.tuple L)) = false := rfl
  have c : evE (calAt g.pr k) (.lc (.zip (.var 0) (.var 1)) (.tup (.cons (.name 3) (.cons (.name 2) .nil))) (.bl true) (.call 21 (.cons (.var 3) (.cons (.var 2) .nil))) [3, 2]) [.sh (.tuple L), .sh (.tuple L), .un, .un] =
      .ok (.ow (.lst (L.filterMap fun _ => some (PyData.bool true)))) [.sh (.tuple L), .sh (.tuple L), .un, .un] := by
    rw [q_lc]
    refine lcM_all (f := fun v : D => PyData.tuple [v, v]) (xs := L) (o := fun _ => some (PyData.bool true)) ?_ hl ?_ rfl fun v hv => ?_
    · have e : zipD (.tuple L) (.tuple L) = some (L.map fun v => PyData.tuple [v, v]) := by
        show some ((L.zip L).map fun p => PyData.tuple [p.1, p.2]) = _
        congr 1
        clear hx hl t1 t2 t3
        induction L with
        | nil => rfl
        | cons a L ih => rw [List.zip_cons_cons, List.map_cons, List.map_cons, ih]
      simp only [q_var, q_int, q_str, q_bl, q_non, q_glo, q_bin, q_neg, q_cmp, q_chain, q_and, q_or, q_not, q_ife, q_ix, q_cget, q_dix, q_orv, q_dicm, ky0, ky1, ne_app, q_dic, ne_ok, tr_non, tr_int, tr_lst, q_sl, q_rev, q_tup, q_lst, q_call, n_callN, n_evT, n_tmp, n_isTv, n_isT2, n_isTc, n_aV0, n_aVd, n_aVv, n_hT0, n_hTt, n_hTf, n_scB, n_scI, n_scN, n_scT, n_scL, n_scO, n_let0, n_letD, n_letV, n_letG, q_bf, q_isi, q_lcl, q_app, q_ext, q_pop, q_ins, q_an0, q_an1, q_or0, q_or1, q_ds0, q_ds1, q_os0, q_os1, q_as0, q_as1, q_seq, q_rng, q_zip, q_enu, q_rvd, q_asgN, q_asgT, q_par, q_par3, q_tr, q_trN, q_six, q_exp, q_ret, q_ite, q_rai, q_nil, q_cons, b_app, b_ok, b_bad, b_err, p_app, p_bad, l_some, o_var, f_app, t_app, d_sh, d_ow, r_d, r_v, bM_app, a_t, a_f, rs0, rs1, nx_app, o_int, m_int, o_str, m_str, o_bl, m_bl, o_non, m_non, o_glo, m_glo, o_bin, m_bin, o_neg, m_neg, o_cmp, m_cmp, o_chain, m_chain, o_and, m_and, o_or, m_or, o_not, m_not, o_ife, m_ife, o_ix, m_ix, o_cget, m_cget, o_sl, m_sl, o_orv, m_orv, o_dix, m_dix, o_dic, m_dic, o_tup, m_tup, o_lst, m_lst, o_call, m_call, o_bf, m_bf, o_isi, m_isi, o_lc, m_lc, o_lcl, m_lcl, o_pop, m_pop, o_rfd, m_rfd, m_var, k_add, k_sub, k_mul, k_div, k_mod, k_lt, k_le, k_gt, k_ge, k_isn, k_nisn, k_isb, k_nisb, k_rev, k_eqi, k_nei, x1_0, x2_0, x2_1, x3_0, x3_1, x3_2, x4_0, x4_1, x4_2, x4_3, y2_0, y2_1, y3_0, y3_1, y3_2, n_abs, n_int, n_max, n_min, n_len, n_lent, n_tup, n_all, z0, z1, z2, z3, z4, v_app, opV_app, resV_app, ioV_app, set_app, g0, g1, g2, gS, st0, stS, sz0, sz1, sz2, sz3, sz4, sz5, sz6, sz7, sz8, sz9, sz10, sz11, sz12, sz13, sz14, sz15, sz16, sz17, sz18, sz19, sz20, io_is_whole, io_is_fraction, io_divisor_of, io_pen_machine, io_is_joint, io_is_above, io_are_joints, io_is_step, io_is_machine, io__law_cell_at, io__law_state, io__law_take, io__law_divisor, io__law_ratio, io__law_plus, io__law_minus, io__law_times, io__law_over, io__law_small, io__law_above, io__law_four_rods, io__law_same, io_law, con_MOST_STEPS, asgM, callM, callR, ioIx, argSls, argSl, ioSl, callE, putOuts, outsOf, goodArgs, ioAt, startS, Ob.val, List.set_cons_zero, List.set_cons_succ, List.length_cons, List.length_nil, Nat.reduceAdd, Nat.reduceSub, Nat.reduceLT, Nat.sub_self, List.replicate_zero, List.replicate_succ, List.cons_append, List.nil_append, List.append_nil, reduceIte, Option.map_some, Option.map_none, List.not_mem_nil, List.nodup_nil, if_true, if_false, Bool.false_eq_true, eq_self, or_self, or_false, false_or, Bool.not_true, Bool.not_false, List.map_cons, List.map_nil, decide_true, decide_false, e]
    · intro i hi
      simp at hi
      show i < 4
      omega
    · have e : wipeS [.sh (.tuple L), .sh (.tuple L), .un, .un] [3, 2] = [.sh (.tuple L), .sh (.tuple L), .un, .un] := rfl
      rw [e]
      refine ⟨[.sh (.tuple L), .sh (.tuple L), .sh v, .sh v], ?_, rfl⟩
      have rv := hx v hv k (Nat.le_refl _)
      simp (decide := true) only [q_var, q_int, q_str, q_bl, q_non, q_glo, q_bin, q_neg, q_cmp, q_chain, q_and, q_or, q_not, q_ife, q_ix, q_cget, q_dix, q_orv, q_dicm, ky0, ky1, ne_app, q_dic, ne_ok, tr_non, tr_int, tr_lst, q_sl, q_rev, q_tup, q_lst, q_call, n_callN, n_evT, n_tmp, n_isTv, n_isT2, n_isTc, n_aV0, n_aVd, n_aVv, n_hT0, n_hTt, n_hTf, n_scB, n_scI, n_scN, n_scT, n_scL, n_scO, n_let0, n_letD, n_letV, n_letG, q_bf, q_isi, q_lcl, q_app, q_ext, q_pop, q_ins, q_an0, q_an1, q_or0, q_or1, q_ds0, q_ds1, q_os0, q_os1, q_as0, q_as1, q_seq, q_rng, q_zip, q_enu, q_rvd, q_asgN, q_asgT, q_par, q_par3, q_tr, q_trN, q_six, q_exp, q_ret, q_ite, q_rai, q_nil, q_cons, b_app, b_ok, b_bad, b_err, p_app, p_bad, l_some, o_var, f_app, t_app, d_sh, d_ow, r_d, r_v, bM_app, a_t, a_f, rs0, rs1, nx_app, o_int, m_int, o_str, m_str, o_bl, m_bl, o_non, m_non, o_glo, m_glo, o_bin, m_bin, o_neg, m_neg, o_cmp, m_cmp, o_chain, m_chain, o_and, m_and, o_or, m_or, o_not, m_not, o_ife, m_ife, o_ix, m_ix, o_cget, m_cget, o_sl, m_sl, o_orv, m_orv, o_dix, m_dix, o_dic, m_dic, o_tup, m_tup, o_lst, m_lst, o_call, m_call, o_bf, m_bf, o_isi, m_isi, o_lc, m_lc, o_lcl, m_lcl, o_pop, m_pop, o_rfd, m_rfd, m_var, k_add, k_sub, k_mul, k_div, k_mod, k_lt, k_le, k_gt, k_ge, k_isn, k_nisn, k_isb, k_nisb, k_rev, k_eqi, k_nei, x1_0, x2_0, x2_1, x3_0, x3_1, x3_2, x4_0, x4_1, x4_2, x4_3, y2_0, y2_1, y3_0, y3_1, y3_2, n_abs, n_int, n_max, n_min, n_len, n_lent, n_tup, n_all, z0, z1, z2, z3, z4, v_app, opV_app, resV_app, ioV_app, set_app, g0, g1, g2, gS, st0, stS, sz0, sz1, sz2, sz3, sz4, sz5, sz6, sz7, sz8, sz9, sz10, sz11, sz12, sz13, sz14, sz15, sz16, sz17, sz18, sz19, sz20, io_is_whole, io_is_fraction, io_divisor_of, io_pen_machine, io_is_joint, io_is_above, io_are_joints, io_is_step, io_is_machine, io__law_cell_at, io__law_state, io__law_take, io__law_divisor, io__law_ratio, io__law_plus, io__law_minus, io__law_times, io__law_over, io__law_small, io__law_above, io__law_four_rods, io__law_same, io_law, con_MOST_STEPS, asgM, callM, callR, ioIx, argSls, argSl, ioSl, callE, putOuts, outsOf, goodArgs, ioAt, startS, Ob.val, List.set_cons_zero, List.set_cons_succ, List.length_cons, List.length_nil, Nat.reduceAdd, Nat.reduceSub, Nat.reduceLT, Nat.sub_self, List.replicate_zero, List.replicate_succ, List.cons_append, List.nil_append, List.append_nil, reduceIte, Option.map_some, Option.map_none, List.not_mem_nil, List.nodup_nil, if_true, if_false, Bool.false_eq_true, eq_self, or_self, or_false, false_or, Bool.not_true, Bool.not_false, List.map_cons, List.map_nil, decide_true, decide_false, q_pt, q_pt2, rv]
  have ab : allB (L.filterMap fun _ => some (PyData.bool true)) = some true := by
    clear hx hl c t1 t2 t3
    induction L with
    | nil => rfl
    | cons a L ih =>
      show (allB (L.filterMap fun _ => some (PyData.bool true))).map (true && ·) = _
      rw [ih]
      rfl
  have le : cmpD .NotEq (.int (L.length : Int)) (.int (L.length : Int)) = some false := by
    rw [k_nei, decide_eq_true rfl]
    rfl
  simp (decide := true) only [runFd, f__law_same, q_var, q_int, q_str, q_bl, q_non, q_glo, q_bin, q_neg, q_cmp, q_chain, q_and, q_or, q_not, q_ife, q_ix, q_cget, q_dix, q_orv, q_dicm, ky0, ky1, ne_app, q_dic, ne_ok, tr_non, tr_int, tr_lst, q_sl, q_rev, q_tup, q_lst, q_call, n_callN, n_evT, n_tmp, n_isTv, n_isT2, n_isTc, n_aV0, n_aVd, n_aVv, n_hT0, n_hTt, n_hTf, n_scB, n_scI, n_scN, n_scT, n_scL, n_scO, n_let0, n_letD, n_letV, n_letG, q_bf, q_isi, q_lcl, q_app, q_ext, q_pop, q_ins, q_an0, q_an1, q_or0, q_or1, q_ds0, q_ds1, q_os0, q_os1, q_as0, q_as1, q_seq, q_rng, q_zip, q_enu, q_rvd, q_asgN, q_asgT, q_par, q_par3, q_tr, q_trN, q_six, q_exp, q_ret, q_ite, q_rai, q_nil, q_cons, b_app, b_ok, b_bad, b_err, p_app, p_bad, l_some, o_var, f_app, t_app, d_sh, d_ow, r_d, r_v, bM_app, a_t, a_f, rs0, rs1, nx_app, o_int, m_int, o_str, m_str, o_bl, m_bl, o_non, m_non, o_glo, m_glo, o_bin, m_bin, o_neg, m_neg, o_cmp, m_cmp, o_chain, m_chain, o_and, m_and, o_or, m_or, o_not, m_not, o_ife, m_ife, o_ix, m_ix, o_cget, m_cget, o_sl, m_sl, o_orv, m_orv, o_dix, m_dix, o_dic, m_dic, o_tup, m_tup, o_lst, m_lst, o_call, m_call, o_bf, m_bf, o_isi, m_isi, o_lc, m_lc, o_lcl, m_lcl, o_pop, m_pop, o_rfd, m_rfd, m_var, k_add, k_sub, k_mul, k_div, k_mod, k_lt, k_le, k_gt, k_ge, k_isn, k_nisn, k_isb, k_nisb, k_rev, k_eqi, k_nei, x1_0, x2_0, x2_1, x3_0, x3_1, x3_2, x4_0, x4_1, x4_2, x4_3, y2_0, y2_1, y3_0, y3_1, y3_2, n_abs, n_int, n_max, n_min, n_len, n_lent, n_tup, n_all, z0, z1, z2, z3, z4, v_app, opV_app, resV_app, ioV_app, set_app, g0, g1, g2, gS, st0, stS, sz0, sz1, sz2, sz3, sz4, sz5, sz6, sz7, sz8, sz9, sz10, sz11, sz12, sz13, sz14, sz15, sz16, sz17, sz18, sz19, sz20, io_is_whole, io_is_fraction, io_divisor_of, io_pen_machine, io_is_joint, io_is_above, io_are_joints, io_is_step, io_is_machine, io__law_cell_at, io__law_state, io__law_take, io__law_divisor, io__law_ratio, io__law_plus, io__law_minus, io__law_times, io__law_over, io__law_small, io__law_above, io__law_four_rods, io__law_same, io_law, con_MOST_STEPS, asgM, callM, callR, ioIx, argSls, argSl, ioSl, callE, putOuts, outsOf, goodArgs, ioAt, startS, Ob.val, List.set_cons_zero, List.set_cons_succ, List.length_cons, List.length_nil, Nat.reduceAdd, Nat.reduceSub, Nat.reduceLT, Nat.sub_self, List.replicate_zero, List.replicate_succ, List.cons_append, List.nil_append, List.append_nil, reduceIte, Option.map_some, Option.map_none, List.not_mem_nil, List.nodup_nil, if_true, if_false, Bool.false_eq_true, eq_self, or_self, or_false, false_or, Bool.not_true, Bool.not_false, List.map_cons, List.map_nil, decide_true, decide_false, t1, t2, t3, k_neb, n_lent, c, n_all, ab, le]
theorem same_str {k : Nat} (h : 1 ≤ k) {x : Str} (e : cmpD .Eq (.str x) (.str x) = some true) : (calAt g.pr k).run i__law_same [.sh (.str x), .sh (.str x)] = .ok (.sh (.bool true)) [] := by
  obtain ⟨k, rfl⟩ := Nat.exists_eq_add_of_le' (show 1 ≤ k by omega)
  rw [rr k (t := ⟨f__law_same, _, _, _⟩) rfl]
  have t1 : [Ty.tuple, Ty.list].any (isTy (.str x)) = false := rfl
  have t2 : [Ty.bool].any (isTy (.str x)) = false := rfl
  simp (decide := true) only [runFd, f__law_same, q_var, q_int, q_str, q_bl, q_non, q_glo, q_bin, q_neg, q_cmp, q_chain, q_and, q_or, q_not, q_ife, q_ix, q_cget, q_dix, q_orv, q_dicm, ky0, ky1, ne_app, q_dic, ne_ok, tr_non, tr_int, tr_lst, q_sl, q_rev, q_tup, q_lst, q_call, n_callN, n_evT, n_tmp, n_isTv, n_isT2, n_isTc, n_aV0, n_aVd, n_aVv, n_hT0, n_hTt, n_hTf, n_scB, n_scI, n_scN, n_scT, n_scL, n_scO, n_let0, n_letD, n_letV, n_letG, q_bf, q_isi, q_lcl, q_app, q_ext, q_pop, q_ins, q_an0, q_an1, q_or0, q_or1, q_ds0, q_ds1, q_os0, q_os1, q_as0, q_as1, q_seq, q_rng, q_zip, q_enu, q_rvd, q_asgN, q_asgT, q_par, q_par3, q_tr, q_trN, q_six, q_exp, q_ret, q_ite, q_rai, q_nil, q_cons, b_app, b_ok, b_bad, b_err, p_app, p_bad, l_some, o_var, f_app, t_app, d_sh, d_ow, r_d, r_v, bM_app, a_t, a_f, rs0, rs1, nx_app, o_int, m_int, o_str, m_str, o_bl, m_bl, o_non, m_non, o_glo, m_glo, o_bin, m_bin, o_neg, m_neg, o_cmp, m_cmp, o_chain, m_chain, o_and, m_and, o_or, m_or, o_not, m_not, o_ife, m_ife, o_ix, m_ix, o_cget, m_cget, o_sl, m_sl, o_orv, m_orv, o_dix, m_dix, o_dic, m_dic, o_tup, m_tup, o_lst, m_lst, o_call, m_call, o_bf, m_bf, o_isi, m_isi, o_lc, m_lc, o_lcl, m_lcl, o_pop, m_pop, o_rfd, m_rfd, m_var, k_add, k_sub, k_mul, k_div, k_mod, k_lt, k_le, k_gt, k_ge, k_isn, k_nisn, k_isb, k_nisb, k_rev, k_eqi, k_nei, x1_0, x2_0, x2_1, x3_0, x3_1, x3_2, x4_0, x4_1, x4_2, x4_3, y2_0, y2_1, y3_0, y3_1, y3_2, n_abs, n_int, n_max, n_min, n_len, n_lent, n_tup, n_all, z0, z1, z2, z3, z4, v_app, opV_app, resV_app, ioV_app, set_app, g0, g1, g2, gS, st0, stS, sz0, sz1, sz2, sz3, sz4, sz5, sz6, sz7, sz8, sz9, sz10, sz11, sz12, sz13, sz14, sz15, sz16, sz17, sz18, sz19, sz20, io_is_whole, io_is_fraction, io_divisor_of, io_pen_machine, io_is_joint, io_is_above, io_are_joints, io_is_step, io_is_machine, io__law_cell_at, io__law_state, io__law_take, io__law_divisor, io__law_ratio, io__law_plus, io__law_minus, io__law_times, io__law_over, io__law_small, io__law_above, io__law_four_rods, io__law_same, io_law, con_MOST_STEPS, asgM, callM, callR, ioIx, argSls, argSl, ioSl, callE, putOuts, outsOf, goodArgs, ioAt, startS, Ob.val, List.set_cons_zero, List.set_cons_succ, List.length_cons, List.length_nil, Nat.reduceAdd, Nat.reduceSub, Nat.reduceLT, Nat.sub_self, List.replicate_zero, List.replicate_succ, List.cons_append, List.nil_append, List.append_nil, reduceIte, Option.map_some, Option.map_none, List.not_mem_nil, List.nodup_nil, if_true, if_false, Bool.false_eq_true, eq_self, or_self, or_false, false_or, Bool.not_true, Bool.not_false, List.map_cons, List.map_nil, decide_true, decide_false, t1, t2, e, k_eqb]
theorem same_m {k : Nat} (h : 6 ≤ k) (a b c d r u v p q : Rat) (e : Int) : (calAt g.pr k).run i__law_same [.sh (.tuple [sFix (fr a) (fr b), sFix (fr c) (fr d), sCrank (fr r), sPair (fr u) (fr v) e, sLike (fr p) (fr q)]), .sh (.tuple [sFix (fr a) (fr b), sFix (fr c) (fr d), sCrank (fr r), sPair (fr u) (fr v) e, sLike (fr p) (fr q)])] = .ok (.sh (.bool true)) [] := by
  have hf : ∀ (x y : Rat) (j : Nat), 4 ≤ j → (calAt g.pr j).run i__law_same [.sh (sFix (fr x) (fr y)), .sh (sFix (fr x) (fr y))] = .ok (.sh (.bool true)) [] := fun x y j hj =>
    same_tupL (by omega) (show 3 < sizeLine by decide) fun v hv i hi => by
      simp only [List.mem_cons, List.not_mem_nil, or_false] at hv
      rcases hv with rfl | rfl | rfl
      · exact same_str (by omega) w_ff
      · exact same_fr (by omega) _
      · exact same_fr (by omega) _
  refine same_tupL (by omega) (show 5 < sizeLine by decide) fun w hw j hj => ?_
  simp only [List.mem_cons, List.not_mem_nil, or_false] at hw
  rcases hw with rfl | rfl | rfl | rfl | rfl
  · exact hf _ _ _ (by omega)
  · exact hf _ _ _ (by omega)
  · refine same_tupL (by omega) (show 3 < sizeLine by decide) fun v hv i hi => ?_
    simp only [List.mem_cons, List.not_mem_nil, or_false] at hv
    rcases hv with rfl | rfl | rfl
    · exact same_str (by omega) w_cc
    · exact same_int (by omega) _
    · exact same_fr (by omega) _
  · refine same_tupL (by omega) (show 6 < sizeLine by decide) fun v hv i hi => ?_
    simp only [List.mem_cons, List.not_mem_nil, or_false] at hv
    rcases hv with rfl | rfl | rfl | rfl | rfl | rfl
    · exact same_str (by omega) w_pp
    · exact same_int (by omega) _
    · exact same_int (by omega) _
    · exact same_fr (by omega) _
    · exact same_fr (by omega) _
    · exact same_int (by omega) _
  · refine same_tupL (by omega) (show 5 < sizeLine by decide) fun v hv i hi => ?_
    simp only [List.mem_cons, List.not_mem_nil, or_false] at hv
    rcases hv with rfl | rfl | rfl | rfl | rfl
    · exact same_str (by omega) w_ll
    · exact same_int (by omega) _
    · exact same_int (by omega) _
    · exact same_fr (by omega) _
    · exact same_fr (by omega) _
abbrev T11 (x0 x1 x2 x3 x4 x5 x6 x7 x8 x9 x10 : Sl) : S := [x0, x1, x2, x3, x4, x5, x6, x7, x8, x9, x10]
def I1 (ns : List Int) (s : S) : Prop := ∃ x1 x2 x3 x4 x5 x6 x7 x8 x9 x10, s = T11 (lawArg ns) x1 x2 x3 x4 x5 x6 x7 x8 x9 x10
theorem side_turn {k : Nat} (h : 8 ≤ k) {a b c d r u v p q : Rat} (r0 : 0 < r) (u0 : 0 < u) (v0 : 0 < v) {e : Int} (e0 : 0 ≤ e) (e1 : e ≤ 1) {x0 x1 x2 x8 x9 x10 : Sl} : ∃ y9 y10,
    ((putT (.name 8) (.int e)).bind fun _ => evSs (calAt g.pr k) [] b3_law) (T11 x0 x1 x2 (.sh (p2 p q)) (.sh (p2 u v)) (.sh (fr r)) (.sh (p2 c d)) (.sh (p2 a b)) x8 x9 x10) = .ok .nx (T11 x0 x1 x2 (.sh (p2 p q)) (.sh (p2 u v)) (.sh (fr r)) (.sh (p2 c d)) (.sh (p2 a b)) (.sh (.int e)) y9 y10) := by
  have m1 := r_pen (k := k) (by omega) (fr a) (fr b) (fr c) (fr d) (fr r) (fr u) (fr v) (fr p) (fr q) e
  have m2 := same_m (k := k) (by omega) a b c d r u v p q e
  have m3 := r_machine (k := k) (by omega) (a := a) (b := b) (c := c) (d := d) (p := p) (q := q) r0 u0 v0 e0 e1
  have a1 : ∀ x y z w : D, binD .Add (.tuple [x, y, z]) (.tuple [w]) = some (.sh (.tuple [x, y, z, w])) := fun x y z w => rfl
  have a2 : ∀ x y z w t : D, binD .Add (.tuple [x, y, z, w]) (.tuple [t]) = some (.sh (.tuple [x, y, z, w, t])) := fun x y z w t => rfl
  refine ⟨.sh (.tuple [sFix (fr a) (fr b), sFix (fr c) (fr d), sCrank (fr r), sPair (fr u) (fr v) e, sLike (fr p) (fr q)]), .sh (.tuple [sFix (fr a) (fr b), sFix (fr c) (fr d), sCrank (fr r), sPair (fr u) (fr v) e, sLike (fr p) (fr q)]), ?_⟩
  unfold p2 at *
  generalize fr a = a' at *
  generalize fr b = b' at *
  generalize fr c = c' at *
  generalize fr d = d' at *
  generalize fr r = r' at *
  generalize fr u = u' at *
  generalize fr v = v' at *
  generalize fr p = p' at *
  generalize fr q = q' at *
  simp (decide := true) only [b3_law, q_var, q_int, q_str, q_bl, q_non, q_glo, q_bin, q_neg, q_cmp, q_chain, q_and, q_or, q_not, q_ife, q_ix, q_cget, q_dix, q_orv, q_dicm, ky0, ky1, ne_app, q_dic, ne_ok, tr_non, tr_int, tr_lst, q_sl, q_rev, q_tup, q_lst, q_call, n_callN, n_evT, n_tmp, n_isTv, n_isT2, n_isTc, n_aV0, n_aVd, n_aVv, n_hT0, n_hTt, n_hTf, n_scB, n_scI, n_scN, n_scT, n_scL, n_scO, n_let0, n_letD, n_letV, n_letG, q_bf, q_isi, q_lcl, q_app, q_ext, q_pop, q_ins, q_an0, q_an1, q_or0, q_or1, q_ds0, q_ds1, q_os0, q_os1, q_as0, q_as1, q_seq, q_rng, q_zip, q_enu, q_rvd, q_asgN, q_asgT, q_par, q_par3, q_tr, q_trN, q_six, q_exp, q_ret, q_ite, q_rai, q_nil, q_cons, b_app, b_ok, b_bad, b_err, p_app, p_bad, l_some, o_var, f_app, t_app, d_sh, d_ow, r_d, r_v, bM_app, a_t, a_f, rs0, rs1, nx_app, o_int, m_int, o_str, m_str, o_bl, m_bl, o_non, m_non, o_glo, m_glo, o_bin, m_bin, o_neg, m_neg, o_cmp, m_cmp, o_chain, m_chain, o_and, m_and, o_or, m_or, o_not, m_not, o_ife, m_ife, o_ix, m_ix, o_cget, m_cget, o_sl, m_sl, o_orv, m_orv, o_dix, m_dix, o_dic, m_dic, o_tup, m_tup, o_lst, m_lst, o_call, m_call, o_bf, m_bf, o_isi, m_isi, o_lc, m_lc, o_lcl, m_lcl, o_pop, m_pop, o_rfd, m_rfd, m_var, k_add, k_sub, k_mul, k_div, k_mod, k_lt, k_le, k_gt, k_ge, k_isn, k_nisn, k_isb, k_nisb, k_rev, k_eqi, k_nei, x1_0, x2_0, x2_1, x3_0, x3_1, x3_2, x4_0, x4_1, x4_2, x4_3, y2_0, y2_1, y3_0, y3_1, y3_2, n_abs, n_int, n_max, n_min, n_len, n_lent, n_tup, n_all, z0, z1, z2, z3, z4, v_app, opV_app, resV_app, ioV_app, set_app, g0, g1, g2, gS, st0, stS, sz0, sz1, sz2, sz3, sz4, sz5, sz6, sz7, sz8, sz9, sz10, sz11, sz12, sz13, sz14, sz15, sz16, sz17, sz18, sz19, sz20, io_is_whole, io_is_fraction, io_divisor_of, io_pen_machine, io_is_joint, io_is_above, io_are_joints, io_is_step, io_is_machine, io__law_cell_at, io__law_state, io__law_take, io__law_divisor, io__law_ratio, io__law_plus, io__law_minus, io__law_times, io__law_over, io__law_small, io__law_above, io__law_four_rods, io__law_same, io_law, con_MOST_STEPS, asgM, callM, callR, ioIx, argSls, argSl, ioSl, callE, putOuts, outsOf, goodArgs, ioAt, startS, Ob.val, List.set_cons_zero, List.set_cons_succ, List.length_cons, List.length_nil, Nat.reduceAdd, Nat.reduceSub, Nat.reduceLT, Nat.sub_self, List.replicate_zero, List.replicate_succ, List.cons_append, List.nil_append, List.append_nil, reduceIte, Option.map_some, Option.map_none, List.not_mem_nil, List.nodup_nil, if_true, if_false, Bool.false_eq_true, eq_self, or_self, or_false, false_or, Bool.not_true, Bool.not_false, List.map_cons, List.map_nil, decide_true, decide_false, q_pt, a1, a2, m1, m2, m3, k_nisb]
theorem law_turn {k : Nat} (h : 8 ≤ k) {ns : List Int} {i : Nat} {s : S} (hs : I1 ns s) : ∃ s1, ((putT (.name 1) (.int (i : Int))).bind fun _ => evSs (calAt g.pr k) [] b1_law) s = .ok .nx s1 ∧ I1 ns s1 := by
  obtain ⟨x1, x2, x3, x4, x5, x6, x7, x8, x9, x10, rfl⟩ := hs
  obtain ⟨s0, bl, iv0, r1⟩ := r_state (k := k) (by omega) (ns := ns) (i := i)
  obtain ⟨a, b, c, d, cr, u, v, p, q, s1, c0, u0, v0, iv1, r2⟩ := r_rods (k := k) (by omega) iv0
  obtain ⟨y9, y10, t1⟩ := side_turn (k := k) h (a := a) (b := b) (c := c) (d := d) (p := p) (q := q) c0 u0 v0 (e := 0) (by decide) (by decide) (x0 := lawArg ns) (x1 := .sh (.int (i : Int))) (x2 := .ow (so s1 bl)) (x8 := x8) (x9 := x9) (x10 := x10)
  obtain ⟨z9, z10, t2⟩ := side_turn (k := k) h (a := a) (b := b) (c := c) (d := d) (p := p) (q := q) c0 u0 v0 (e := 1) (by decide) (by decide) (x0 := lawArg ns) (x1 := .sh (.int (i : Int))) (x2 := .ow (so s1 bl)) (x8 := .sh (.int 0)) (x9 := y9) (x10 := y10)
  have lp : evS (calAt g.pr k) [] l2_law (T11 (lawArg ns) (.sh (.int (i : Int))) (.ow (so s1 bl)) (.sh (p2 p q)) (.sh (p2 u v)) (.sh (fr cr)) (.sh (p2 c d)) (.sh (p2 a b)) x8 x9 x10) = .ok .nx (T11 (lawArg ns) (.sh (.int (i : Int))) (.ow (so s1 bl)) (.sh (p2 p q)) (.sh (p2 u v)) (.sh (fr cr)) (.sh (p2 c d)) (.sh (p2 a b)) (.sh (.int 1)) z9 z10) := by
    refine fo_of (ds := [.int 0, .int 1]) rfl rfl ?_
    rw [foGo_t t1, foGo_t t2]
    rfl
  have pt5 : ∀ (x y z w t : D) (s : S), putT (.tup (.cons (.name 7) (.cons (.name 6) (.cons (.name 5) (.cons (.name 4) (.cons (.name 3) .nil)))))) (.tuple [x, y, z, w, t]) s = (putT (.name 7) x s).bind fun _ s1 => (putT (.name 6) y s1).bind fun _ s2 => (putT (.name 5) z s2).bind fun _ s3 => (putT (.name 4) w s3).bind fun _ s4 => (putT (.name 3) t s4).bind fun _ s5 => R.ok () s5 := fun _ _ _ _ _ _ => rfl
  refine ⟨T11 (lawArg ns) (.sh (.int (i : Int))) (.ow (so s1 bl)) (.sh (p2 p q)) (.sh (p2 u v)) (.sh (fr cr)) (.sh (p2 c d)) (.sh (p2 a b)) (.sh (.int 1)) z9 z10, ?_, _, _, _, _, _, _, _, _, _, _, rfl⟩
  unfold so lawArg at *
  simp (decide := true) only [b1_law, q_var, q_int, q_str, q_bl, q_non, q_glo, q_bin, q_neg, q_cmp, q_chain, q_and, q_or, q_not, q_ife, q_ix, q_cget, q_dix, q_orv, q_dicm, ky0, ky1, ne_app, q_dic, ne_ok, tr_non, tr_int, tr_lst, q_sl, q_rev, q_tup, q_lst, q_call, n_callN, n_evT, n_tmp, n_isTv, n_isT2, n_isTc, n_aV0, n_aVd, n_aVv, n_hT0, n_hTt, n_hTf, n_scB, n_scI, n_scN, n_scT, n_scL, n_scO, n_let0, n_letD, n_letV, n_letG, q_bf, q_isi, q_lcl, q_app, q_ext, q_pop, q_ins, q_an0, q_an1, q_or0, q_or1, q_ds0, q_ds1, q_os0, q_os1, q_as0, q_as1, q_seq, q_rng, q_zip, q_enu, q_rvd, q_asgN, q_asgT, q_par, q_par3, q_tr, q_trN, q_six, q_exp, q_ret, q_ite, q_rai, q_nil, q_cons, b_app, b_ok, b_bad, b_err, p_app, p_bad, l_some, o_var, f_app, t_app, d_sh, d_ow, r_d, r_v, bM_app, a_t, a_f, rs0, rs1, nx_app, o_int, m_int, o_str, m_str, o_bl, m_bl, o_non, m_non, o_glo, m_glo, o_bin, m_bin, o_neg, m_neg, o_cmp, m_cmp, o_chain, m_chain, o_and, m_and, o_or, m_or, o_not, m_not, o_ife, m_ife, o_ix, m_ix, o_cget, m_cget, o_sl, m_sl, o_orv, m_orv, o_dix, m_dix, o_dic, m_dic, o_tup, m_tup, o_lst, m_lst, o_call, m_call, o_bf, m_bf, o_isi, m_isi, o_lc, m_lc, o_lcl, m_lcl, o_pop, m_pop, o_rfd, m_rfd, m_var, k_add, k_sub, k_mul, k_div, k_mod, k_lt, k_le, k_gt, k_ge, k_isn, k_nisn, k_isb, k_nisb, k_rev, k_eqi, k_nei, x1_0, x2_0, x2_1, x3_0, x3_1, x3_2, x4_0, x4_1, x4_2, x4_3, y2_0, y2_1, y3_0, y3_1, y3_2, n_abs, n_int, n_max, n_min, n_len, n_lent, n_tup, n_all, z0, z1, z2, z3, z4, v_app, opV_app, resV_app, ioV_app, set_app, g0, g1, g2, gS, st0, stS, sz0, sz1, sz2, sz3, sz4, sz5, sz6, sz7, sz8, sz9, sz10, sz11, sz12, sz13, sz14, sz15, sz16, sz17, sz18, sz19, sz20, io_is_whole, io_is_fraction, io_divisor_of, io_pen_machine, io_is_joint, io_is_above, io_are_joints, io_is_step, io_is_machine, io__law_cell_at, io__law_state, io__law_take, io__law_divisor, io__law_ratio, io__law_plus, io__law_minus, io__law_times, io__law_over, io__law_small, io__law_above, io__law_four_rods, io__law_same, io_law, con_MOST_STEPS, asgM, callM, callR, ioIx, argSls, argSl, ioSl, callE, putOuts, outsOf, goodArgs, ioAt, startS, Ob.val, List.set_cons_zero, List.set_cons_succ, List.length_cons, List.length_nil, Nat.reduceAdd, Nat.reduceSub, Nat.reduceLT, Nat.sub_self, List.replicate_zero, List.replicate_succ, List.cons_append, List.nil_append, List.append_nil, reduceIte, Option.map_some, Option.map_none, List.not_mem_nil, List.nodup_nil, if_true, if_false, Bool.false_eq_true, eq_self, or_self, or_false, false_or, Bool.not_true, Bool.not_false, List.map_cons, List.map_nil, decide_true, decide_false, q_pt, q_ownL, pt5, r1, r2, lp, List.nodup_cons]
theorem sem (ns : List Int) (hl : ns.length ≤ 63) : (calAt g.pr 100).run i_law [lawArg ns] = .ok (.sh (.bool true)) [] := by
  rw [rr 99 (t := ⟨f_law, _, _, _⟩) rfl]
  exact law_of (c := 10) rfl rfl hl (by decide) (I1 ns) ⟨_, _, _, _, _, _, _, _, _, _, rfl⟩ (fun s ⟨_, _, _, _, _, _, _, _, _, _, e⟩ => ⟨_, e⟩) fun i s hs => law_turn (by decide) hs
end Lw
set_option Elab.async false
set_option linter.all false
set_option maxRecDepth 100000
set_option maxHeartbeats 0
open PySem PySem.W PySem.Calls PyProof.Rows
theorem PySem.Challenge.cw_hingedraw_k65_pens_machines_holds : PySem.Challenge.rw_hingedraw_k65_pens_machines.Holds := by
  w_on; o_law
  refine HandSHeadRun.head_any (r := OpenLaw.row PySem.Challenge.rw_hingedraw_k65_pens_machines) (q := view (OpenLaw.row PySem.Challenge.rw_hingedraw_k65_pens_machines).prog [28]) (H := Lw.hk) (ob := Lw.ob) (M := 20000) (loose := Lw.loose) (d := HandSHeadRun.topDef (OpenLaw.row PySem.Challenge.rw_hingedraw_k65_pens_machines).prog 28) (kwd := []) Lw.ob_eq
    (by kernel_rfl) (fun s => by kernel_rfl) Lw.run (by kernel_rfl) (by kernel_rfl) (by kernel_rfl) (by rfl) (by first | assumption | decide +kernel) (by decide +kernel) ⟨rfl, rfl, rfl, rfl, rfl, by decide +kernel⟩ ?hw ?hc
  case hw => w_witness2
  case hc => exact Hg.walk_run (l := PySem.Challenge.rw_hingedraw_k65_pens_machines) (t := ⟨Lw.f_law, Lw.top 28, "law", "law"⟩) (li := 22) (n := 63) (k := 100) (x := "script") Lw.chk rfl rfl rfl (by kernel_rfl) rfl (by decide) (by kernel_rfl) ⟨rfl, by decide, by decide⟩ fun ns h _ => Lw.sem ns h
