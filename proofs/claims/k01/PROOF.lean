import PyProof.Rows.All
import Wide.All
import OpenK.AllK
import Wide.FinOn
import PyProof.EqAt
import PyProof.EqKinds
import PyProof.TupleCall
import PyProof.ReprRoads
import KE.KDictKeyed
import HandS.ForMost
import KE.KStateDown
import Lean
import HandS.Exc
import HandS.Defaults
import HandS.Ends
import HandS.More
import HandS.Words
import HandS.WordsExc
import HandS.Head0
import HandS.Head1
import HandS.Head2
import HandS.HeadEnd
import HandS.HeadHook1
import HandS.HeadHook2
import HandS.Conv
import HandS.Style
import HandS.DictComp
import HandS.Rev
import HandS.RevTup
import HandS.IsInst
import HandS.Flow
import KE.GoesEnum
import PySem.Challenge.RW_staypairs_k01_whole_wishes_judged
set_option Elab.async false
set_option linter.all false
set_option maxRecDepth 100000
set_option maxHeartbeats 4000000
/-! Ev, part 1: plain values, a small store, what each construct computes. -/
namespace Ev
open PySem

mutual
/-- a value: trees of constants and tuples; row: a pair that enumerate, zip, items just made; frl: a list that is only read (the script); ref n: the n-th cell of the store; tmp c: a list (dict) just made that nobody holds -/
inductive D where
  | non | bl (b : Bool) | int (i : Int) | str (s : Str) | tup (xs : List D) | row (xs : List D) | frl (xs : List D) | ref (n : Nat) | tmp (c : Cell)
/-- what a cell holds; lck: locked while a loop walks it -/
inductive Cell where
  | lst (xs : List D) | dct (kvs : List (NestedKey × D)) | lck (c : Cell)
end
instance : Inhabited D := ⟨.non⟩
instance : Inhabited Cell := ⟨.lst []⟩
abbrev Sto := List Cell
abbrev Fr := List (Option D)
/-- an answer -/
inductive R (α : Type) where
  | ok (a : α) (st : Sto) | exc (c : Str) (d : D) (st : Sto) | stuck
abbrev M (α : Type) := Sto → R α
def ret {α : Type} (a : α) : M α := fun st => .ok a st
def stk {α : Type} : M α := fun _ => .stuck
def R.bnd {α β : Type} (r : R α) (f : α → M β) : R β := match r with
  | .ok a st => f a st
  | .exc c d st => .exc c d st
  | .stuck => .stuck
def bnd {α β : Type} (m : M α) (f : α → M β) : M β := fun st => (m st).bnd f
@[simp] theorem bnd_ok {α β : Type} {a : α} {st : Sto} {f : α → M β} : (R.ok a st).bnd f = f a st := rfl
@[simp] theorem bnd_stuck {α β : Type} {f : α → M β} : (R.stuck).bnd f = .stuck := rfl
@[simp] theorem bnd_exc {α β : Type} {c : Str} {d : D} {st : Sto} {f : α → M β} : (R.exc c d st).bnd f = .exc c d st := rfl
theorem bnd_of {α β : Type} {m : M α} {a : α} {st st' : Sto} {f : α → M β} (h : m st = .ok a st') : bnd m f st = f a st' := by
  show (m st).bnd f = _
  rw [h]
  rfl

/-! ### references below n -/
mutual
def D.lower (n : Nat) : D → Bool
  | .tup xs => lowerAll n xs
  | .row xs => lowerAll n xs
  | .frl xs => lowerAll n xs
  | .ref k => decide (k < n)
  | .tmp c => c.lower n
  | .non => true
  | .bl _ => true
  | .int _ => true
  | .str _ => true
def lowerAll (n : Nat) : List D → Bool
  | [] => true
  | x :: xs => x.lower n && lowerAll n xs
def Cell.lower (n : Nat) : Cell → Bool
  | .lst xs => lowerAll n xs
  | .dct kvs => lowerKv n kvs
  | .lck c => c.lower n
def lowerKv (n : Nat) : List (NestedKey × D) → Bool
  | [] => true
  | (_, v) :: r => v.lower n && lowerKv n r
end

/-- a value that may be kept: a new list gets a cell -/
def settle : D → M D
  | .tmp c => fun st => .ok (.ref st.length) (st ++ [c])
  | d => ret d
/-- the cell of a value -/
def Cell.bare : Cell → Cell
  | .lck c => c
  | c => c
def cellAt (st : Sto) : D → Option Cell
  | .ref n => (st[n]?).map Cell.bare
  | .frl xs => some (.lst xs)
  | .tmp c => some c
  | _ => none
/-- a dict that no loop walks -/
def dctAt (st : Sto) : D → Option (List (NestedKey × D))
  | .ref n => match st[n]? with
    | some (.dct kvs) => some kvs
    | _ => none
  | .tmp (.dct kvs) => some kvs
  | _ => none
/-- the items of a tuple or a list -/
def seqAt (st : Sto) : D → Option (List D)
  | .tup xs => some xs
  | d => match cellAt st d with
    | some (.lst xs) => some xs
    | _ => none

/-! ### expressions -/
abbrev Ex := Fr → M D
def varE (i : Nat) : Ex := fun fr st => match fr[i]? with
  | some (some d) => .ok d st
  | _ => .stuck
def conE (d : D) : Ex := fun _ => ret d
/-- one behind another, each settled -/
def allS : List Ex → Fr → M (List D)
  | [], _ => ret []
  | e :: es, fr => bnd (e fr) fun d => bnd (settle d) fun d => bnd (allS es fr) fun ds => ret (d :: ds)
def tupE (es : List Ex) : Ex := fun fr => bnd (allS es fr) fun ds => ret (.tup ds)
def lstE (es : List Ex) : Ex := fun fr => bnd (allS es fr) fun ds => ret (.tmp (.lst ds))
def un1 (f : D → M D) (a : Ex) : Ex := fun fr => bnd (a fr) f
def bin2 (f : D → D → M D) (a b : Ex) : Ex := fun fr => bnd (a fr) fun x => bnd (b fr) fun y => f x y

/-! operators by values -/
def small (n : Nat) : Bool := decide (n ≤ sizeLine)
def addD (x y : D) : M D := fun st => match x, y with
  | .int i, .int j => .ok (.int (i + j)) st
  | .int i, .bl b => .ok (.int (i + PyProof.Rows.b2i b)) st
  | .str a, .str b => if small (a.length + b.length) then .ok (.str (a ++ b)) st else .stuck
  | .tup (a :: as), .tup bs => if small ((a :: as).length + bs.length) then .ok (.tup ((a :: as) ++ bs)) st else .stuck
  | .tup [], .tup bs => .ok (.tup bs) st
  | _, _ => match cellAt st x, cellAt st y with
    | some (.lst as), some (.lst bs) => if small (as.length + bs.length) then .ok (.tmp (.lst (as ++ bs))) st else .stuck
    | _, _ => .stuck
def subD (x y : D) : M D := fun st => match x, y with
  | .int i, .int j => .ok (.int (i - j)) st
  | _, _ => .stuck
noncomputable def mulD (x y : D) : M D := fun st => match x, y with
  | .int i, .int j => open Classical in if IntMulOk i j then .ok (.int (i * j)) st else .stuck
  | .tmp (.lst xs), .int k => if decide (-(2 ^ 63) ≤ k ∧ k < 2 ^ 63) && small (xs.length * k.toNat) then .ok (.tmp (.lst (List.replicate k.toNat xs).flatten)) st else .stuck
  | _, _ => .stuck
def modD (x y : D) : M D := fun st => match x, y with
  | .int i, .int j => if j = 0 then .stuck else .ok (.int (i.fmod j)) st
  | _, _ => .stuck
def fdivD (x y : D) : M D := fun st => match x, y with
  | .int i, .int j => if j ≠ 0 ∧ j.natAbs < 1073741824 then .ok (.int (i.fdiv j)) st else .stuck
  | _, _ => .stuck
def powD (x y : D) : M D := fun st => match x, y with
  | .int i, .int j => if 0 ≤ j ∧ j ≤ 1000000 ∧ i.natAbs < 2 ^ 64 then .ok (.int (i ^ j.toNat)) st else .stuck
  | _, _ => .stuck
def negD (x : D) : M D := fun st => match x with
  | .int i => .ok (.int (-i)) st
  | _ => .stuck
def ltD (x y : D) : M D := fun st => match x, y with
  | .int i, .int j => .ok (.bl (decide (i < j))) st
  | _, _ => .stuck
def leD (x y : D) : M D := fun st => match x, y with
  | .int i, .int j => .ok (.bl (decide (i ≤ j))) st
  | _, _ => .stuck
def gtD (x y : D) : M D := fun st => match x, y with
  | .int i, .int j => .ok (.bl (decide (j < i))) st
  | _, _ => .stuck
def geD (x y : D) : M D := fun st => match x, y with
  | .int i, .int j => .ok (.bl (decide (j ≤ i))) st
  | _, _ => .stuck
def optAll {α β : Type} (f : α → Option β) : List α → Option (List β)
  | [] => some []
  | x :: xs => match f x, optAll f xs with
    | some y, some ys => some (y :: ys)
    | _, _ => none
/-- a value as pure data: lists and tuples alone -/
def toPy (st : Sto) : Nat → D → Option PyData
  | _, .non => some .none
  | _, .bl b => some (.bool b)
  | _, .int i => some (.int i)
  | _, .str s => some (.str s)
  | n + 1, .tup xs => (optAll (toPy st n) xs).map .tuple
  | n + 1, .ref k => match (st[k]?).map Cell.bare with
    | some (.lst xs) => (optAll (toPy st n) xs).map .list
    | _ => none
  | n + 1, .frl xs => (optAll (toPy st n) xs).map .list
  | n + 1, .tmp c => match c with
    | .lst xs => (optAll (toPy st n) xs).map .list
    | _ => none
  | _, _ => none
def eqPy (st : Sto) (x y : D) : Option Bool := match toPy st 65 x, toPy st 65 y with
  | some a, some b => if SeqAt.shaped a && SeqAt.shaped b then some (PyData.eqv a b) else none
  | _, _ => none
/-- two texts -/
def eqStr : D → D → Option Bool
  | .str a, .str b => some (decide (a = b))
  | _, _ => none
def eqD (x y : D) : M D := fun st => match eqStr x y with
  | some b => .ok (.bl b) st
  | none => match eqPy st x y with
    | some b => .ok (.bl b) st
    | none => .stuck
def neD (x y : D) : M D := fun st => match eqStr x y with
  | some b => .ok (.bl (!b)) st
  | none => match eqPy st x y with
    | some b => .ok (.bl (!b)) st
    | none => .stuck
def anyPy (st : Sto) (x : D) : List D → Option Bool
  | [] => some false
  | y :: ys => match eqPy st y x, anyPy st x ys with
    | some a, some b => some (a || b)
    | _, _ => none
def inPy (x y : D) (st : Sto) : Option Bool := match seqAt st y with
  | some ys => anyPy st x ys
  | none => none
def inD (x y : D) : M D := fun st => match inPy x y st with
  | some b => .ok (.bl b) st
  | none => .stuck
def notInD (x y : D) : M D := fun st => match inPy x y st with
  | some b => .ok (.bl (!b)) st
  | none => .stuck
def isNonB : D → Bool
  | .non => true
  | _ => false
def isND (x : D) : M D := ret (.bl (isNonB x))
def notND (x : D) : M D := ret (.bl (!isNonB x))
/-- x[i] -/
def ixD (x i : D) : M D := fun st => match i with
  | .int k => match x with
    | .str s => if small s.length then match L2.atI s.cps.toList k with
        | some c => .ok (.str ⟨#[c]⟩) st
        | none => .stuck
      else .stuck
    | _ => match seqAt st x with
      | some xs => match L2.atI xs k with
        | some d => .ok d st
        | none => .stuck
      | none => .stuck
  | _ => .stuck
def cut {α : Type} (xs : List α) (lo hi : Option Int) : List α := (xs.drop (HT.sIx xs.length 0 lo)).take (HT.sIx xs.length xs.length hi - HT.sIx xs.length 0 lo)
/-- a bound of a slice -/
def partE : Option Ex → Fr → M (Option Int)
  | none, _ => ret none
  | some e, fr => bnd (e fr) fun d => match d with
    | .int i => ret (some i)
    | _ => stk
/-- x[lo:hi] -/
def sliceD (x : D) (lo hi : Option Int) : M D := fun st => match x with
  | .tup xs => .ok (.tup (cut xs lo hi)) st
  | _ => match cellAt st x with
    | some (.lst xs) => .ok (.tmp (.lst (cut xs lo hi))) st
    | _ => .stuck
def sliceE (e : Ex) (lo hi : Option Ex) : Ex := fun fr => bnd (e fr) fun x => bnd (partE lo fr) fun l => bnd (partE hi fr) fun h => sliceD x l h

/-! calls of built-ins -/
def lenD (x : D) : M D := fun st => match x with
  | .str s => if small s.length then .ok (.int s.length) st else .stuck
  | .tup xs => .ok (.int xs.length) st
  | _ => match cellAt st x with
    | some (.lst xs) => .ok (.int xs.length) st
    | some (.dct kvs) => .ok (.int kvs.length) st
    | _ => .stuck
def typeName (st : Sto) (x : D) : Option String := match x with
  | .non => some "NoneType"
  | .bl _ => some "bool"
  | .int _ => some "int"
  | .str _ => some "str"
  | .tup _ => some "tuple"
  | .row _ => some "tuple"
  | _ => match cellAt st x with
    | some (.lst _) => some "list"
    | some (.dct _) => some "dict"
    | _ => none
def isInst (T : String) (x : D) : M D := fun st => match typeName st x with
  | some t => .ok (.bl (t == T || (t == "bool" && T == "int"))) st
  | none => .stuck
def bools : List D → Option (List Bool)
  | [] => some []
  | .bl b :: xs => (bools xs).map (b :: ·)
  | _ => none
def allD (x : D) : M D := fun st => match cellAt st x with
  | some (.lst xs) => match bools xs with
    | some bs => .ok (.bl (bs.all id)) st
    | none => .stuck
  | _ => .stuck
def anyD (x : D) : M D := fun st => match cellAt st x with
  | some (.lst xs) => match bools xs with
    | some bs => .ok (.bl (bs.any id)) st
    | none => .stuck
  | _ => .stuck
def tupleD (x : D) : M D := fun st => match seqAt st x with
  | some xs => .ok (.tup xs) st
  | none => .stuck
def listD (x : D) : M D := fun st => match seqAt st x with
  | some xs => .ok (.tmp (.lst xs)) st
  | none => .stuck
def listRange (a b : D) : M D := fun st => match a, b with
  | .int i, .int j => if small (j - i).toNat && decide (-(2 ^ 62) ≤ i ∧ i < 2 ^ 62 ∧ -(2 ^ 62) ≤ j ∧ j < 2 ^ 62) then .ok (.tmp (.lst ((List.range (j - i).toNat).map fun n : Nat => D.int (i + (n : Int))))) st else .stuck
  | _, _ => .stuck
def intD (x : D) : M D := fun st => match x with
  | .int i => .ok (.int i) st
  | .bl b => .ok (.int (PyProof.Rows.b2i b)) st
  | _ => .stuck
def absD (x : D) : M D := fun st => match x with
  | .int i => .ok (.int (if i < 0 then -i else i)) st
  | _ => .stuck
def maxD (x y : D) : M D := fun st => match x, y with
  | .int i, .int j => .ok (.int (if j > i then j else i)) st
  | _, _ => .stuck
def minD (x y : D) : M D := fun st => match x, y with
  | .int i, .int j => .ok (.int (if j < i then j else i)) st
  | _, _ => .stuck
def reprD (x : D) : M D := fun st => match toPy st 65 x with
  | some d => if d.showable && small d.shown.length && decide (d.depth ≤ 65) then .ok (.str d.shown) st else .stuck
  | none => .stuck

/-! methods -/
/-- the type whose methods a value has -/
def mType (st : Sto) (d : D) : Option String := match d with
  | .str _ => some "str"
  | .tup _ => some "tuple"
  | _ => match cellAt st d with
    | some (.lst _) => some "list"
    | some (.dct _) => some "dict"
    | _ => none
def kindM (Ts : List String) (d : D) : M String := fun st => match mType st d with
  | some T => if Ts.contains T then .ok T st else .stuck
  | none => .stuck
def sameM (T : String) (d : D) : M Unit := fun st => if mType st d = some T then .ok () st else .stuck
def meth0 (Ts : List String) (f : D → M D) (o : Ex) : Ex := fun fr => bnd (o fr) fun x => bnd (kindM Ts x) fun _ => f x
def meth1 (Ts : List String) (f : D → D → M D) (o a : Ex) : Ex := fun fr => bnd (o fr) fun x => bnd (kindM Ts x) fun T => bnd (a fr) fun y => bnd (sameM T x) fun _ => f x y
/-- the argument is kept -/
def meth1s (Ts : List String) (f : D → D → M D) (o a : Ex) : Ex := fun fr => bnd (o fr) fun x => bnd (kindM Ts x) fun T => bnd (a fr) fun y => bnd (settle y) fun y => bnd (sameM T x) fun _ => f x y
def meth2 (Ts : List String) (f : D → D → D → M D) (o a b : Ex) : Ex := fun fr => bnd (o fr) fun x => bnd (kindM Ts x) fun T => bnd (a fr) fun y => bnd (b fr) fun z => bnd (sameM T x) fun _ => f x y z
def isTmp : D → Bool
  | .tmp _ => true
  | _ => false
def appendD (x v : D) : M D := fun st => match x with
  | .ref n => match st[n]? with
    | some (.lst xs) => if !isTmp v && small (xs.length + 1) then .ok .non (st.set n (.lst (xs ++ [v]))) else .stuck
    | _ => .stuck
  | _ => .stuck
/-- a list that may be handed to extend: a new one, or a cell that is not locked -/
def freeL (st : Sto) : D → Option (List D)
  | .tmp (.lst ys) => some ys
  | .ref m => match st[m]? with
    | some (.lst ys) => some ys
    | _ => none
  | _ => none
def extendD (x v : D) : M D := fun st => match x with
  | .ref n => match st[n]?, freeL st v with
    | some (.lst xs), some ys => if small (xs.length + ys.length) then .ok .non (st.set n (.lst (xs ++ ys))) else .stuck
    | _, _ => .stuck
  | _ => .stuck
def popD (x i : D) : M D := fun st => match x, i with
  | .ref n, .int k => match st[n]? with
    | some (.lst xs) => match L2.ixN xs.length k with
      | some j => match xs[j]? with
        | some v => .ok v (st.set n (.lst (xs.eraseIdx j)))
        | none => .stuck
      | none => .stuck
    | _ => .stuck
  | _, _ => .stuck
def pop0D (x : D) : M D := fun st => match x with
  | .ref n => match st[n]? with
    | some (.lst xs) => match xs[xs.length - 1]? with
      | some v => .ok v (st.set n (.lst xs.dropLast))
      | none => .stuck
    | _ => .stuck
  | _ => .stuck
/-- o[i] = v -/
def setD (o i v : D) : M Unit := fun st => match o, i with
  | .ref n, .int k => match st[n]? with
    | some (.lst xs) => match L2.ixN xs.length k with
      | some j => .ok () (st.set n (.lst (xs.set j v)))
      | none => .stuck
    | _ => .stuck
  | _, _ => .stuck

/-! ### tests -/
abbrev Te := Fr → M Bool
def truD (d : D) : M Bool := fun st => match d with
  | .bl b => .ok b st
  | .non => .ok false st
  | .int i => .ok (i != 0) st
  | .str s => if small s.length then .ok (s.length != 0) st else .stuck
  | .tup xs => .ok (!xs.isEmpty) st
  | _ => match cellAt st d with
    | some (.lst xs) => .ok (!xs.isEmpty) st
    | some (.dct kvs) => match dctAt st d with
      | some _ => .ok (!kvs.isEmpty) st
      | none => .stuck
    | _ => .stuck
def testE (e : Ex) : Te := fun fr => bnd (e fr) truD
def notT (t : Te) : Te := fun fr => bnd (t fr) fun b => ret (!b)
def andT (t u : Te) : Te := fun fr => bnd (t fr) fun b => if b then u fr else ret false
def orT (t u : Te) : Te := fun fr => bnd (t fr) fun b => if b then ret true else u fr
/-- and, or, not of values -/
def andE (a b : Ex) : Ex := fun fr => bnd (a fr) fun x => bnd (truD x) fun c => if c then b fr else ret x
def orE (a b : Ex) : Ex := fun fr => bnd (a fr) fun x => bnd (truD x) fun c => if c then ret x else b fr
def notE (a : Ex) : Ex := fun fr => bnd (a fr) fun x => bnd (truD x) fun c => ret (.bl (!c))
def ifE (t : Te) (a b : Ex) : Ex := fun fr => bnd (t fr) fun c => if c then a fr else b fr
/-- a op b op' c -/
def chainE (f g : D → D → M D) (a b c : Ex) : Ex := fun fr => bnd (a fr) fun x => bnd (b fr) fun y => bnd (f x y) fun z => bnd (truD z) fun k => if k then bnd (c fr) fun w => g y w else ret z

/-! ### what is walked -/
structure Src where
  items : List D
  locks : List Nat
def lockAt (n : Nat) (c : Cell) (items : List D) : M Src := fun st => .ok ⟨items, [n]⟩ (st.set n (.lck c))
def srcOf (x : D) : M Src := fun st => match x with
  | .tup xs => .ok ⟨xs, []⟩ st
  | .tmp (.lst xs) => .ok ⟨xs, []⟩ st
  | .frl xs => .ok ⟨xs, []⟩ st
  | .ref n => match st[n]? with
    | some (.lst xs) => lockAt n (.lst xs) xs st
    | some (.lck (.lst xs)) => .ok ⟨xs, []⟩ st
    | _ => .stuck
  | _ => .stuck
abbrev It := Fr → M Src
def seqI (e : Ex) : It := fun fr => bnd (e fr) srcOf
def rangeI (a b : Ex) : It := fun fr => bnd (a fr) fun x => bnd (b fr) fun y => match x, y with
  | .int i, .int j => if decide (-(2 ^ 62) ≤ i ∧ i < 2 ^ 62 ∧ -(2 ^ 62) ≤ j ∧ j < 2 ^ 62) && small (j - i).toNat then ret ⟨(List.range (j - i).toNat).map fun n : Nat => D.int (i + (n : Int)), []⟩ else stk
  | _, _ => stk
def range1I (a : Ex) : It := fun fr => bnd (a fr) fun x => match x with
  | .int j => if decide (-(2 ^ 62) ≤ j ∧ j < 2 ^ 62) && small j.toNat then ret ⟨(List.range j.toNat).map fun n : Nat => D.int n, []⟩ else stk
  | _ => stk
def numb : Nat → List D → List D
  | _, [] => []
  | n, x :: xs => .row [.int n, x] :: numb (n + 1) xs
def enumI (e : Ex) : It := fun fr => bnd (e fr) fun x => bnd (srcOf x) fun s => ret ⟨numb 0 s.items, s.locks⟩
def unlock1 (n : Nat) (st : Sto) : Sto := match st[n]? with
  | some (.lck c) => st.set n c
  | _ => st
def unlocks (ns : List Nat) (st : Sto) : Sto := ns.foldl (fun st n => unlock1 n st) st
/-- an error does not leave a loop over a locked list -/
def R.unl {α : Type} (ns : List Nat) (r : R α) : R α := match r with
  | .ok a st => .ok a (unlocks ns st)
  | .exc c d st => match ns with
    | [] => .exc c d st
    | _ => .stuck
  | .stuck => .stuck
/-- no error leaves a comprehension -/
def R.unl0 {α : Type} (ns : List Nat) (r : R α) : R α := match r with
  | .ok a st => .ok a (unlocks ns st)
  | _ => .stuck
def locked0 {α : Type} (ns : List Nat) (m : M α) : M α := fun st => (m st).unl0 ns
def locked {α : Type} (ns : List Nat) (m : M α) : M α := fun st => (m st).unl ns

/-! ### targets and statements -/
abbrev Tg := D → Fr → M Fr
def setT (i : Nat) : Tg := fun d fr => bnd (settle d) fun d => ret (fr.set i (some d))
def eachT : List Tg → List D → Fr → M Fr
  | [], [], fr => ret fr
  | t :: ts, d :: ds, fr => bnd (t d fr) fun fr => eachT ts ds fr
  | _, _, _ => stk
def tupT (ts : List Tg) : Tg := fun d fr => fun st => match d with
  | .tup xs => if xs.length = ts.length then eachT ts xs fr st else .stuck
  | .row xs => if xs.length = ts.length then eachT ts xs fr st else .stuck
  | _ => .stuck
def subT (o i : Ex) : Tg := fun d fr => bnd (settle d) fun d => bnd (o fr) fun x => bnd (i fr) fun k => bnd (setD x k d) fun _ => ret fr
inductive Fl where
  | nx (fr : Fr) | rt (d : D) | bk (fr : Fr)
abbrev S := Fr → M Fl
def nopS : S := fun fr => ret (.nx fr)
def brkS : S := fun fr => ret (.bk fr)
def seqS (s t : S) : S := fun fr => bnd (s fr) fun f => match f with
  | .nx fr => t fr
  | f => ret f
def asgS (t : Tg) (e : Ex) : S := fun fr => bnd (e fr) fun d => bnd (t d fr) fun fr => ret (.nx fr)
def exprS (e : Ex) : S := fun fr => bnd (e fr) fun _ => ret (.nx fr)
def retS (e : Ex) : S := fun fr => bnd (e fr) fun d => ret (.rt d)
def retN : S := fun _ => ret (.rt .non)
def ifS (t : Te) (a b : S) : S := fun fr => bnd (t fr) fun c => if c then a fr else b fr
def augS (i : Nat) (f : D → D → M D) (e : Ex) : S := fun fr => bnd (varE i fr) fun x => bnd (e fr) fun y => bnd (f x y) fun z => bnd (setT i z fr) fun fr => ret (.nx fr)
def loop (t : Tg) (b : S) : List D → Fr → M Fl
  | [], fr => ret (.nx fr)
  | x :: xs, fr => bnd (t x fr) fun fr => bnd (b fr) fun f => match f with
    | .nx fr => loop t b xs fr
    | .bk fr => ret (.nx fr)
    | .rt d => ret (.rt d)
def forS (it : It) (t : Tg) (b : S) : S := fun fr => bnd (it fr) fun s => locked s.locks (loop t b s.items fr)
def whileS (c : Te) (b : S) : Nat → S
  | 0, _ => stk
  | n + 1, fr => bnd (c fr) fun k => if k then bnd (b fr) fun f => match f with
      | .nx fr => whileS c b n fr
      | .bk fr => ret (.nx fr)
      | .rt d => ret (.rt d)
    else ret (.nx fr)
/-! ### comprehensions -/
def wipe (fr : Fr) : List Nat → Fr
  | [] => fr
  | v :: vs => (wipe fr vs).set v none
def allT : List Te → Te
  | [], _ => ret true
  | t :: ts, fr => bnd (t fr) fun b => if b then allT ts fr else ret false
def lcLoop (t : Tg) (ifs : List Te) (e : Ex) (fr : Fr) : List D → List D → M (List D)
  | [], acc => ret acc
  | x :: xs, acc => bnd (t x fr) fun fr1 => bnd (allT ifs fr1) fun b => if b then bnd (e fr1) fun d => bnd (settle d) fun d => lcLoop t ifs e fr xs (acc ++ [d]) else lcLoop t ifs e fr xs acc
def lcE (own : List Nat) (it : It) (t : Tg) (ifs : List Te) (e : Ex) : Ex := fun fr => bnd (it fr) fun s => bnd (locked0 s.locks (lcLoop t ifs e (wipe fr own) s.items [])) fun ds => ret (.tmp (.lst ds))
/-! ### functions -/
abbrev Fn := List D → M D
def Cell.isLck : Cell → Bool
  | .lck _ => true
  | _ => false
/-- the cells below n, behind a call -/
def Kept (st st' : Sto) : Prop := (∀ (i : Nat) (c : Cell), i < st.length → st'[i]? = some c → st[i]? = some c ∨ c.lower st.length = true) ∧ st.length ≤ st'.length
open Classical in
/-- behind a call: cells that nobody can reach are dropped -/
noncomputable def sweep (st : Sto) (d : D) (st' : Sto) : R D :=
  if Kept st st' then
    if d.lower st.length then .ok d (st'.take st.length)
    else match d with
      | .ref k => match st'[k]? with
        | some c => if decide (st.length ≤ k) && !c.isLck && c.lower st.length then .ok (.tmp c) (st'.take st.length) else .ok d st'
        | none => .ok d st'
      | _ => .ok d st'
  else .ok d st'
noncomputable def endS (st : Sto) : R Fl → R D
  | .ok (.rt d) st' => sweep st d st'
  | .ok (.nx _) st' => sweep st .non st'
  | .ok (.bk _) _ => .stuck
  | .exc c d st' => .exc c d st'
  | .stuck => .stuck
noncomputable def fnD (n m : Nat) (b : S) : Fn := fun args st => if args.length = n then endS st (b (args.map some ++ List.replicate m none) st) else .stuck
def callE (n : Nat) (f : Fn) (es : List Ex) : Ex := fun fr => bnd (allS es fr) fun ds => if ds.length = n then f ds else stk
end Ev
set_option Elab.async false
set_option linter.all false
set_option maxRecDepth 100000
set_option maxHeartbeats 4000000
/-! Ev, part 2: how values, cells, frames lie in the abstract heap; the transformer of a denotation. -/
namespace Ev
open PySem PySem.Spec PyProof.Rows L2

/-- at a stands a tuple of vs, without a dict of its own -/
def TupX (K : PySem.W.Frag) (ρ : List Addr) (H : Hp) (a : Addr) (vs : List V) : Prop :=
  (∃ o : Obj, H a = some (.frz o (.tup vs)) ∧ a ∉ ρ ∧ o.dict = none ∧ o.cls = .type "tuple") ∨
    ∃ (o : Obj) (its : Array Value) (n : Nat), K.lookup a = some o ∧ o.cls = .type "tuple" ∧ o.dict = none ∧ o.data = .seq its n ∧ its.size ≤ sizeLine ∧ Vals vs its.toList
/-- at a: a list that nobody writes: frozen for good, or the module's -/
def LstX (K : PySem.W.Frag) (ρ : List Addr) (H : Hp) (a : Addr) (vs : List V) : Prop :=
  (∃ o : Obj, H a = some (.frz o (.lst vs)) ∧ a ∉ ρ) ∨
    ∃ (o : Obj) (its : Array Value) (n : Nat), K.lookup a = some o ∧ o.cls = .type "list" ∧ o.dict = none ∧ o.data = .seq its n ∧ its.size ≤ sizeLine ∧ Vals vs its.toList
theorem LstX.sq {K : PySem.W.Frag} {ρ : List Addr} {H : Hp} {a : Addr} {vs : List V} (h : LstX K ρ H a vs) : SqL K H a vs := by
  rcases h with ⟨o, h, _⟩ | h
  · exact .inl (.inr ⟨o, h⟩)
  · exact .inr h
theorem TupX.sq {K : PySem.W.Frag} {ρ : List Addr} {H : Hp} {a : Addr} {vs : List V} (h : TupX K ρ H a vs) : SqT K H a vs := by
  rcases h with ⟨o, h, _⟩ | ⟨o, its, n, h1, h2, _, h3, h4, h5⟩
  · exact .inl (.inr ⟨o, h⟩)
  · exact .inr ⟨o, its, n, h1, h2, h3, h4, h5⟩

mutual
/-- a kept value -/
inductive Rep (K : PySem.W.Frag) (ρ : List Addr) (H : Hp) : D → V → Prop where
  | non : Rep K ρ H .non .non
  | bl (b : Bool) : Rep K ρ H (.bl b) (.bl b)
  | int (i : Int) : Rep K ρ H (.int i) (.int i)
  | str (s : Str) : Rep K ρ H (.str s) (.str s)
  | tup {a : Addr} {xs : List D} {vs : List V} : TupX K ρ H a vs → RepL K ρ H xs vs → Rep K ρ H (.tup xs) (.ref a)
  | row {a : Addr} {xs : List D} {vs : List V} : (H a = some (.tup vs) ∨ TupX K ρ H a vs) → RepL K ρ H xs vs → Rep K ρ H (.row xs) (.ref a)
  | frl {a : Addr} {xs : List D} {vs : List V} : LstX K ρ H a vs → RepL K ρ H xs vs → Rep K ρ H (.frl xs) (.ref a)
  | ref {n : Nat} {a : Addr} : ρ[n]? = some a → Rep K ρ H (.ref n) (.ref a)
inductive RepL (K : PySem.W.Frag) (ρ : List Addr) (H : Hp) : List D → List V → Prop where
  | nil : RepL K ρ H [] []
  | cons {d : D} {v : V} {ds : List D} {vs : List V} : Rep K ρ H d v → RepL K ρ H ds vs → RepL K ρ H (d :: ds) (v :: vs)
end
/-- a key that is no tuple -/
def kN : L2.Key → NestedKey
  | .inl i => .num i
  | .inr s => .text s
inductive RepKV (K : PySem.W.Frag) (ρ : List Addr) (H : Hp) : List (NestedKey × D) → List (L2.Key × V) → Prop where
  | nil : RepKV K ρ H [] []
  | cons {k : L2.Key} {d : D} {v : V} {ds : List (NestedKey × D)} {vs : List (L2.Key × V)} : Rep K ρ H d v → RepKV K ρ H ds vs → RepKV K ρ H ((kN k, d) :: ds) ((k, v) :: vs)
/-- a cell's content -/
def RepU (K : PySem.W.Frag) (ρ : List Addr) (H : Hp) : Cell → HO → Prop
  | .lst xs, u => ∃ vs, u = .lst vs ∧ RepL K ρ H xs vs
  | .dct xs, u => ∃ ps, u = .dK ps ∧ RepKV K ρ H xs ps
  | .lck _, _ => False
def RepC (K : PySem.W.Frag) (ρ : List Addr) (H : Hp) (c : Cell) (a : Addr) : Prop := match c with
  | .lck c => ∃ od u, H a = some (.frz od u) ∧ RepU K ρ H c u
  | c => ∃ u, H a = some u ∧ RepU K ρ H c u
structure RepS (K : PySem.W.Frag) (ρ : List Addr) (H : Hp) (st : Sto) : Prop where
  len : ρ.length = st.length
  nd : ρ.Nodup
  at_ : ∀ (n : Nat) (c : Cell) (a : Addr), st[n]? = some c → ρ[n]? = some a → RepC K ρ H c a
/-- a value in hand -/
inductive RepH (K : PySem.W.Frag) (ρ : List Addr) (H : Hp) : D → V → Prop where
  | kept {d : D} {v : V} : Rep K ρ H d v → RepH K ρ H d v
  | tmp {c : Cell} {a : Addr} {u : HO} : a ∉ ρ → H a = some u → RepU K ρ H c u → RepH K ρ H (.tmp c) (.ref a)
structure RepF (K : PySem.W.Frag) (ρ : List Addr) (H : Hp) (fr : Fr) (σ : L2.St) : Prop where
  len : fr.length = σ.length
  at_ : ∀ (i : Nat) (d : D), fr[i]? = some (some d) → ∃ v, σ[i]? = some (some v) ∧ Rep K ρ H d v

/-- what stays: for kept values -/
structure Stay (ρ ρ' : List Addr) (H H' : Hp) : Prop where
  pre : ∃ ext, ρ' = ρ ++ ext
  tup : ∀ a xs, H a = some (.tup xs) → H' a = some (.tup xs)
  frz : ∀ a o u, H a = some (.frz o u) → a ∉ ρ → a ∉ ρ' ∧ H' a = some (.frz o u)
/-- what a piece of code does to the heap -/
structure Grow (ρ ρ' : List Addr) (H H' : Hp) : Prop where
  pre : ∃ ext, ρ' = ρ ++ ext ∧ ∀ a ∈ ext, H a = none
  keep : ∀ a o, H a = some o → a ∉ ρ → H' a = some o
  tup : ∀ a xs, H a = some (.tup xs) → H' a = some (.tup xs)
  frz : ∀ a o u, H a = some (.frz o u) → H' a = some (.frz o u)
  dom : ∀ a o, H a = some o → ∃ o', H' a = some o'
section
variable {K : PySem.W.Frag} {ρ ρ' ρ1 ρ2 : List Addr} {H H' H1 H2 : Hp}
theorem Stay.refl : Stay ρ ρ H H := ⟨⟨[], by simp⟩, fun _ _ h => h, fun _ _ _ h n => ⟨n, h⟩⟩
theorem Stay.trans (a : Stay ρ ρ1 H H1) (b : Stay ρ1 ρ2 H1 H2) : Stay ρ ρ2 H H2 := by
  obtain ⟨e1, h1⟩ := a.pre
  obtain ⟨e2, h2⟩ := b.pre
  exact ⟨⟨e1 ++ e2, by rw [h2, h1, List.append_assoc]⟩, fun x xs h => b.tup _ _ (a.tup _ _ h), fun x o xs h n => let ⟨n1, q⟩ := a.frz _ _ _ h n; b.frz _ _ _ q n1⟩
theorem Grow.stay (g : Grow ρ ρ' H H') : Stay ρ ρ' H H' := by
  obtain ⟨e, h, hn⟩ := g.pre
  refine ⟨⟨e, h⟩, g.tup, fun a o u q n => ⟨fun z => ?_, g.frz a o u q⟩⟩
  rw [h] at z
  rcases List.mem_append.mp z with z | z
  · exact n z
  · rw [hn a z] at q; cases q
theorem Grow.refl : Grow ρ ρ H H := ⟨⟨[], by simp, by simp⟩, fun _ _ h _ => h, fun _ _ h => h, fun _ _ _ h => h, fun _ o h => ⟨o, h⟩⟩
theorem Grow.trans (a : Grow ρ ρ1 H H1) (b : Grow ρ1 ρ2 H1 H2) : Grow ρ ρ2 H H2 := by
  obtain ⟨e1, h1, n1⟩ := a.pre
  obtain ⟨e2, h2, n2⟩ := b.pre
  refine ⟨⟨e1 ++ e2, by rw [h2, h1, List.append_assoc], fun x hx => ?_⟩, fun x o h hn => b.keep x o (a.keep x o h hn) ?_, fun x xs h => b.tup _ _ (a.tup _ _ h), fun x o u h => b.frz _ _ _ (a.frz _ _ _ h), fun x o h => ?_⟩
  · rcases List.mem_append.mp hx with hx | hx
    · exact n1 x hx
    · cases q : H x with
      | none => rfl
      | some o =>
        obtain ⟨o', h'⟩ := a.dom x o q
        rw [n2 x hx] at h'
        cases h'
  · rw [h1]
    intro z
    rcases List.mem_append.mp z with z | z
    · exact hn z
    · rw [n1 x z] at h
      cases h
  · obtain ⟨o', h'⟩ := a.dom x o h
    exact b.dom x o' h'
theorem Grow.free (g : Grow ρ ρ' H H') {a : Addr} (h : H' a = none) : H a = none := by
  cases q : H a with
  | none => rfl
  | some o =>
    obtain ⟨o', h'⟩ := g.dom a o q
    rw [h] at h'
    cases h'
/-- one new address is tracked -/
theorem Grow.new {a : Addr} {o : HO} (h : H a = none) : Grow ρ ρ H (upd H a o) := by
  have ne : ∀ b u, H b = some u → b ≠ a := fun b u e z => by rw [z, h] at e; cases e
  exact ⟨⟨[], by simp, by simp⟩, fun b u e _ => by rw [upd_ne (ne b u e)]; exact e, fun b xs e => by rw [upd_ne (ne b _ e)]; exact e, fun b o u e => by rw [upd_ne (ne b _ e)]; exact e, fun b u e => ⟨u, by rw [upd_ne (ne b u e)]; exact e⟩⟩
theorem TupX.stay {a : Addr} {vs : List V} (h : TupX K ρ H a vs) (s : Stay ρ ρ' H H') : TupX K ρ' H' a vs := by
  rcases h with ⟨o, h, n, q⟩ | h
  · obtain ⟨n', h'⟩ := s.frz _ _ _ h n
    exact .inl ⟨o, h', n', q⟩
  · exact .inr h
theorem LstX.stay {a : Addr} {vs : List V} (h : LstX K ρ H a vs) (s : Stay ρ ρ' H H') : LstX K ρ' H' a vs := by
  rcases h with ⟨o, h, n⟩ | h
  · obtain ⟨n', h'⟩ := s.frz _ _ _ h n
    exact .inl ⟨o, h', n'⟩
  · exact .inr h
theorem Stay.at (s : Stay ρ ρ' H H') {n : Nat} {a : Addr} (h : ρ[n]? = some a) : ρ'[n]? = some a := by
  obtain ⟨e, h2⟩ := s.pre
  rw [h2, List.getElem?_append_left (by
    by_cases q : n < ρ.length
    · exact q
    · rw [List.getElem?_eq_none (by omega)] at h
      cases h)]
  exact h
mutual
theorem Rep.stay (s : Stay ρ ρ' H H') : ∀ {d : D} {v : V}, Rep K ρ H d v → Rep K ρ' H' d v
  | _, _, .non => .non
  | _, _, .bl b => .bl b
  | _, _, .int i => .int i
  | _, _, .str x => .str x
  | _, _, .tup h r => .tup (h.stay s) (RepL.stay s r)
  | _, _, .row h r => .row (h.elim (fun h => .inl (s.tup _ _ h)) fun h => .inr (h.stay s)) (RepL.stay s r)
  | _, _, .frl h r => .frl (h.stay s) (RepL.stay s r)
  | _, _, .ref h => .ref (s.at h)
theorem RepL.stay (s : Stay ρ ρ' H H') : ∀ {ds : List D} {vs : List V}, RepL K ρ H ds vs → RepL K ρ' H' ds vs
  | _, _, .nil => .nil
  | _, _, .cons h r => .cons (Rep.stay s h) (RepL.stay s r)
end
theorem RepKV.stay (s : Stay ρ ρ' H H') : ∀ {ds : List (NestedKey × D)} {vs : List (L2.Key × V)}, RepKV K ρ H ds vs → RepKV K ρ' H' ds vs
  | _, _, .nil => .nil
  | _, _, .cons h r => .cons (h.stay s) (RepKV.stay s r)
theorem RepKV.length : ∀ {ds : List (NestedKey × D)} {vs : List (L2.Key × V)}, RepKV K ρ H ds vs → ds.length = vs.length
  | _, _, .nil => rfl
  | _, _, .cons h r => by simp [RepKV.length r]
theorem RepU.stay (s : Stay ρ ρ' H H') {c : Cell} {u : HO} (h : RepU K ρ H c u) : RepU K ρ' H' c u := by
  cases c with
  | lst xs => obtain ⟨vs, e, r⟩ := h; exact ⟨vs, e, r.stay s⟩
  | dct _ => obtain ⟨ps, e, r⟩ := h; exact ⟨ps, e, r.stay s⟩
  | lck _ => exact h
theorem RepH.grow (g : Grow ρ ρ' H H') {d : D} {v : V} (h : RepH K ρ H d v) : RepH K ρ' H' d v := by
  cases h with
  | kept h => exact .kept (h.stay g.stay)
  | tmp n hu r =>
    refine .tmp (fun z => ?_) (g.keep _ _ hu n) (r.stay g.stay)
    obtain ⟨e, q, hn⟩ := g.pre
    rw [q] at z
    rcases List.mem_append.mp z with z | z
    · exact n z
    · rw [hn _ z] at hu; cases hu
theorem RepF.stay (s : Stay ρ ρ' H H') {fr : Fr} {σ : L2.St} (h : RepF K ρ H fr σ) : RepF K ρ' H' fr σ :=
  ⟨h.len, fun i d e => let ⟨v, e2, r⟩ := h.at_ i d e; ⟨v, e2, r.stay s⟩⟩
theorem RepL.length {ds : List D} {vs : List V} (h : RepL K ρ H ds vs) : ds.length = vs.length := by
  induction ds generalizing vs with
  | nil => cases h; rfl
  | cons d ds ih => cases h with | cons _ r => simp [ih r]
theorem RepL.get {ds : List D} {vs : List V} (h : RepL K ρ H ds vs) {i : Nat} {d : D} (e : ds[i]? = some d) : ∃ v, vs[i]? = some v ∧ Rep K ρ H d v := by
  induction ds generalizing vs i with
  | nil => simp at e
  | cons x ds ih =>
    cases h with
    | cons a r =>
      cases i with
      | zero => simp at e; subst e; exact ⟨_, rfl, a⟩
      | succ i => simpa using ih r (by simpa using e)
theorem RepL.append {ds es : List D} {vs ws : List V} (h : RepL K ρ H ds vs) (k : RepL K ρ H es ws) : RepL K ρ H (ds ++ es) (vs ++ ws) := by
  induction ds generalizing vs with
  | nil => cases h; exact k
  | cons d ds ih => cases h with | cons a r => exact .cons a (ih r)
theorem RepL.take {ds : List D} {vs : List V} (h : RepL K ρ H ds vs) (n : Nat) : RepL K ρ H (ds.take n) (vs.take n) := by
  induction ds generalizing vs n with
  | nil => cases h; simp; exact .nil
  | cons d ds ih => cases h with | cons a r => cases n with
    | zero => simp; exact .nil
    | succ n => simpa using .cons a (ih r n)
theorem RepL.drop {ds : List D} {vs : List V} (h : RepL K ρ H ds vs) (n : Nat) : RepL K ρ H (ds.drop n) (vs.drop n) := by
  induction ds generalizing vs n with
  | nil => cases h; simp; exact .nil
  | cons d ds ih => cases h with | cons a r => cases n with
    | zero => simpa using .cons a r
    | succ n => simpa using ih r n
theorem RepL.set {ds : List D} {vs : List V} (h : RepL K ρ H ds vs) {d : D} {v : V} (r : Rep K ρ H d v) (n : Nat) : RepL K ρ H (ds.set n d) (vs.set n v) := by
  induction ds generalizing vs n with
  | nil => cases h; simp; exact .nil
  | cons x ds ih => cases h with | cons a q => cases n with
    | zero => simpa using .cons r q
    | succ n => simpa using .cons a (ih q n)
theorem RepL.eraseIdx {ds : List D} {vs : List V} (h : RepL K ρ H ds vs) (n : Nat) : RepL K ρ H (ds.eraseIdx n) (vs.eraseIdx n) := by
  induction ds generalizing vs n with
  | nil => cases h; simp; exact .nil
  | cons x ds ih => cases h with | cons a q => cases n with
    | zero => simpa using q
    | succ n => simpa using .cons a (ih q n)
theorem RepL.dropLast {ds : List D} {vs : List V} (h : RepL K ρ H ds vs) : RepL K ρ H ds.dropLast vs.dropLast := by
  rw [List.dropLast_eq_take, List.dropLast_eq_take, h.length]
  exact h.take _
theorem RepL.flat {ds : List D} {vs : List V} (h : RepL K ρ H ds vs) (k : Nat) : RepL K ρ H (List.replicate k ds).flatten (List.replicate k vs).flatten := by
  induction k with
  | zero => exact .nil
  | succ k ih =>
    rw [List.replicate_succ, List.replicate_succ, List.flatten_cons, List.flatten_cons]
    exact h.append ih

/-! ### a store that stays -/
theorem RepC.stay {c : Cell} {a : Addr} (s : Stay ρ ρ' H H') (h : RepC K ρ H c a) (e : H' a = H a) : RepC K ρ' H' c a := by
  cases c with
  | lck c => obtain ⟨od, u, h1, h2⟩ := h; exact ⟨od, u, e.trans h1, h2.stay s⟩
  | lst xs => obtain ⟨u, h1, h2⟩ := h; exact ⟨u, e.trans h1, h2.stay s⟩
  | dct xs => obtain ⟨u, h1, h2⟩ := h; exact ⟨u, e.trans h1, h2.stay s⟩
theorem RepC.there {c : Cell} {a : Addr} (h : RepC K ρ H c a) : ∃ o, H a = some o := by
  cases c with
  | lck c => obtain ⟨od, u, h1, h2⟩ := h; exact ⟨_, h1⟩
  | lst xs => obtain ⟨u, h1, h2⟩ := h; exact ⟨u, h1⟩
  | dct xs => obtain ⟨u, h1, h2⟩ := h; exact ⟨u, h1⟩
/-- a new tracked address outside -/
theorem RepS.out {st : Sto} {a : Addr} (h : RepS K ρ H st) (hn : H a = none) : a ∉ ρ := fun z => by
  obtain ⟨n, hl, e⟩ := List.getElem_of_mem z
  have hl2 : n < st.length := by rw [← h.len]; exact hl
  obtain ⟨o, q⟩ := (h.at_ n _ a (List.getElem?_eq_getElem hl2) (by rw [List.getElem?_eq_getElem hl, e])).there
  rw [hn] at q
  cases q
theorem RepS.new {st : Sto} {a : Addr} {o : HO} (h : RepS K ρ H st) (hn : H a = none) : RepS K ρ (upd H a o) st :=
  have hk := h.out hn
  ⟨h.len, h.nd, fun n c b e1 e2 => (h.at_ n c b e1 e2).stay (Grow.new hn).stay (upd_ne fun z => hk (z ▸ List.mem_of_getElem? e2))⟩
/-- the cell of an address -/
theorem RepS.cell {st : Sto} (h : RepS K ρ H st) {n : Nat} {c : Cell} (e : st[n]? = some c) : ∃ a, ρ[n]? = some a ∧ RepC K ρ H c a := by
  have hl : n < st.length := by
    by_cases q : n < st.length
    · exact q
    · rw [List.getElem?_eq_none (by omega)] at e; cases e
  have hl2 : n < ρ.length := by rw [h.len]; exact hl
  exact ⟨ρ[n], List.getElem?_eq_getElem hl2, h.at_ n c _ e (List.getElem?_eq_getElem hl2)⟩
/-- a cell is written -/
theorem RepS.put {st : Sto} (h : RepS K ρ H st) {n : Nat} {a : Addr} {c : Cell} {u : HO} (e : ρ[n]? = some a) (s : Stay ρ ρ H (upd H a u)) (hc : RepC K ρ (upd H a u) c a) : RepS K ρ (upd H a u) (st.set n c) := by
  refine ⟨by rw [List.length_set]; exact h.len, h.nd, fun m d b e1 e2 => ?_⟩
  by_cases hm : m = n
  · subst hm
    rw [e] at e2
    cases e2
    have hlt : m < st.length := by
      by_cases q : m < st.length
      · exact q
      · rw [List.getElem?_eq_none (by rw [List.length_set]; omega)] at e1; cases e1
    rw [List.getElem?_set_self hlt] at e1
    cases e1
    exact hc
  · rw [List.getElem?_set_ne (Ne.symm hm)] at e1
    refine (h.at_ m d b e1 e2).stay s (upd_ne fun z => hm ?_)
    subst z
    have h1 := (List.getElem?_eq_some_iff.mp e2)
    have h2 := (List.getElem?_eq_some_iff.mp e)
    obtain ⟨l1, q1⟩ := h1
    obtain ⟨l2, q2⟩ := h2
    exact (List.getElem_inj h.nd).mp (q1.trans q2.symm)
/-- a list in hand, in a cell or tracked, as the layer reads it -/
theorem RepS.read {st : Sto} (h : RepS K ρ H st) {d : D} {v : V} {xs : List D} (r : RepH K ρ H d v) (e : cellAt st d = some (.lst xs)) : ∃ a vs, v = .ref a ∧ SqL K H a vs ∧ RepL K ρ H xs vs := by
  cases r with
  | kept r =>
    cases r with
    | @ref n a hn =>
      have e' : (st[n]?).map Cell.bare = some (.lst xs) := e
      cases q : st[n]? with
      | none => rw [q] at e'; cases e'
      | some c =>
        rw [q] at e'
        have hc := h.at_ n c a q hn
        cases c with
        | lst ys =>
          cases e'
          obtain ⟨u, h1, vs, rfl, h2⟩ := hc
          exact ⟨a, vs, rfl, .inl (.inl h1), h2⟩
        | dct _ => cases e'
        | lck c =>
          have e2 : c = .lst xs := by simpa [Cell.bare] using e'
          subst e2
          obtain ⟨od, u, h1, vs, rfl, h2⟩ := hc
          exact ⟨a, vs, rfl, .inl (.inr ⟨od, h1⟩), h2⟩
    | frl h1 h2 => cases e; exact ⟨_, _, rfl, h1.sq, h2⟩
    | _ => cases e
  | tmp n hu r =>
    cases e
    obtain ⟨vs, rfl, h2⟩ := r
    exact ⟨_, vs, rfl, .inl (.inl hu), h2⟩
/-- a dict, in a cell or tracked -/
theorem RepS.readD {st : Sto} (h : RepS K ρ H st) {d : D} {v : V} {xs : List (NestedKey × D)} (r : RepH K ρ H d v) (e : cellAt st d = some (.dct xs)) : ∃ a ps, v = .ref a ∧ Rd H a (.dK ps) ∧ RepKV K ρ H xs ps := by
  cases r with
  | kept r =>
    cases r with
    | @ref n a hn =>
      have e' : (st[n]?).map Cell.bare = some (.dct xs) := e
      cases q : st[n]? with
      | none => rw [q] at e'; cases e'
      | some c =>
        rw [q] at e'
        have hc := h.at_ n c a q hn
        cases c with
        | lst ys => cases e'
        | dct ys =>
          cases e'
          obtain ⟨u, h1, vs, rfl, h2⟩ := hc
          exact ⟨a, vs, rfl, .inl h1, h2⟩
        | lck c =>
          have e2 : c = .dct xs := by simpa [Cell.bare] using e'
          subst e2
          obtain ⟨od, u, h1, vs, rfl, h2⟩ := hc
          exact ⟨a, vs, rfl, .inr ⟨od, h1⟩, h2⟩
    | _ => cases e
  | tmp n hu r =>
    cases e
    obtain ⟨vs, rfl, h2⟩ := r
    exact ⟨_, vs, rfl, .inl hu, h2⟩
/-- .. that no loop walks: where its cell lies, if it has one -/
theorem RepS.dctAt {st : Sto} (h : RepS K ρ H st) {d : D} {v : V} {xs : List (NestedKey × D)} (r : RepH K ρ H d v) (e : dctAt st d = some xs) : ∃ a ps, v = .ref a ∧ H a = some (.dK ps) ∧ RepKV K ρ H xs ps := by
  cases r with
  | kept r =>
    cases r with
    | @ref n a hn =>
      replace e : (match st[n]? with
        | some (.dct kvs) => some kvs
        | _ => none) = some xs := e
      split at e
      · rename_i kvs q
        cases e
        obtain ⟨u, h1, vs, rfl, h2⟩ := h.at_ _ _ a q hn
        exact ⟨a, vs, rfl, h1, h2⟩
      · cases e
    | _ => cases e
  | @tmp c a u n hu r =>
    cases c with
    | dct ys =>
      cases e
      obtain ⟨vs, rfl, h2⟩ := r
      exact ⟨_, vs, rfl, hu, h2⟩
    | _ => cases e
/-- a list or a tuple -/
theorem RepS.seq {st : Sto} (h : RepS K ρ H st) {d : D} {v : V} {xs : List D} (r : RepH K ρ H d v) (e : seqAt st d = some xs) : ∃ a vs, v = .ref a ∧ (SqL K H a vs ∨ TupX K ρ H a vs) ∧ RepL K ρ H xs vs := by
  cases d with
  | tup ys =>
    cases e
    cases r with
    | kept r => cases r with | tup h1 h2 => exact ⟨_, _, rfl, .inr h1, h2⟩
  | _ =>
    all_goals
      simp only [seqAt] at e
      split at e
      · cases e
        rename_i q
        obtain ⟨a, vs, e1, h1, h2⟩ := h.read r q
        exact ⟨a, vs, e1, .inl h1, h2⟩
      · cases e
end

/-! ### the transformer of a denotation -/
/-- what is wanted of an exception -/
abbrev EK := Str → D → List Addr → Hp → Prop
/-- r, begun at (ρ, H), ends well: P of the answer, the store, the addresses, the heap -/
def Wp (K : PySem.W.Frag) (E : EK) {α : Type} (r : R α) (ρ : List Addr) (H : Hp) (P : α → Sto → List Addr → Hp → Prop) : Prop := match r with
  | .ok a st => ∀ ρ' H', Grow ρ ρ' H H' → RepS K ρ' H' st → P a st ρ' H'
  | .exc c d st => ∀ ρ' H', Grow ρ ρ' H H' → RepS K ρ' H' st → E c d ρ' H'
  | .stuck => False
section
variable {K : PySem.W.Frag} {E : EK} {ρ ρ' ρ1 ρ2 : List Addr} {H H' H1 H2 : Hp} {α β : Type}
theorem Wp.base {r : R α} {P : α → Sto → List Addr → Hp → Prop} (h : Wp K E r ρ H P) (g : Grow ρ ρ1 H H1) : Wp K E r ρ1 H1 P := by
  cases r with
  | ok a st => exact fun ρ' H' g' s => h ρ' H' (g.trans g') s
  | exc c d st => exact fun ρ' H' g' s => h ρ' H' (g.trans g') s
  | stuck => exact h
theorem Wp.mono {r : R α} {P Q : α → Sto → List Addr → Hp → Prop} (h : Wp K E r ρ H P) (k : ∀ a st ρ' H', Grow ρ ρ' H H' → RepS K ρ' H' st → P a st ρ' H' → Q a st ρ' H') : Wp K E r ρ H Q := by
  cases r with
  | ok a st => exact fun ρ' H' g' s => k a st ρ' H' g' s (h ρ' H' g' s)
  | exc c d st => exact h
  | stuck => exact h
/-- one behind another: the second begun where the first has ended, but told from the first's beginning -/
theorem Wp.bnd {r : R α} {f : α → M β} {P : β → Sto → List Addr → Hp → Prop} (h : Wp K E (r.bnd f) ρ H P) : Wp K E r ρ H fun a st _ _ => Wp K E (f a st) ρ H P := by
  cases r with
  | ok a st => exact fun ρ' H' g' s => h
  | exc c d st => exact h
  | stuck => exact h
/-- a value just made is fresh -/
def Fresh (H : Hp) (d : D) (v : V) : Prop := ∀ c a, d = .tmp c → v = .ref a → H a = none
theorem Fresh.kept {d : D} {v : V} (h : Rep K ρ H1 d v) : Fresh H d v := fun c a e _ => by subst e; cases h
theorem Fresh.base {d : D} {v : V} (g : Grow ρ ρ1 H H1) (h : Fresh H1 d v) : Fresh H d v := fun c a e1 e2 => g.free (h c a e1 e2)
/-- an expression's end -/
def Pd (K : PySem.W.Frag) (H : Hp) (Q : D → V → Sto → List Addr → Hp → Prop) : D → Sto → List Addr → Hp → Prop := fun d st ρ' H' => ∀ v, RepH K ρ' H' d v → Fresh H d v → Q d v st ρ' H'
def tOf (K : PySem.W.Frag) (E : EK) (f : Ex) : TE := fun σ H Q => ∃ ρ fr st, RepF K ρ H fr σ ∧ RepS K ρ H st ∧ Wp K E (f fr st) ρ H (Pd K H fun _ v _ _ H' => Q v H')
def tTest (K : PySem.W.Frag) (E : EK) (t : Te) : TT := fun σ H Q => ∃ ρ fr st, RepF K ρ H fr σ ∧ RepS K ρ H st ∧ Wp K E (t fr st) ρ H fun b _ _ H' => Q b H'
def tArgs (K : PySem.W.Frag) (E : EK) (f : Fr → M (List D)) : TA := fun σ H Q => ∃ ρ fr st, RepF K ρ H fr σ ∧ RepS K ρ H st ∧ Wp K E (f fr st) ρ H fun ds _ ρ' H' => ∀ vs, RepL K ρ' H' ds vs → Q vs H'
def tStm (K : PySem.W.Frag) (E : EK) (s : S) : TS := fun D σ H => ∃ ρ fr st, RepF K ρ H fr σ ∧ RepS K ρ H st ∧ Wp K E (s fr st) ρ H fun f _ ρ' H' => match f with
  | .nx fr => ∀ σ', RepF K ρ' H' fr σ' → D.nx σ' H'
  | .bk fr => ∀ σ', RepF K ρ' H' fr σ' → D.bk σ' H'
  | .rt d => ∀ v, RepH K ρ' H' d v → Fresh H d v → D.rt v H'
/-- a value gets its cell -/
theorem settled {d : D} {v : V} {st : Sto} {f : D → M β} {P : β → Sto → List Addr → Hp → Prop} (h : Wp K E ((settle d st).bnd f) ρ H P) (g : Grow ρ ρ1 H H1) (s : RepS K ρ1 H1 st) (r : RepH K ρ1 H1 d v) (fr : Fresh H d v) :
    ∃ d' ρ2 st2, Grow ρ ρ2 H H1 ∧ Stay ρ1 ρ2 H1 H1 ∧ RepS K ρ2 H1 st2 ∧ Rep K ρ2 H1 d' v ∧ Wp K E (f d' st2) ρ H P := by
  cases r with
  | kept r =>
    refine ⟨d, ρ1, st, g, .refl, s, r, ?_⟩
    cases d with
    | tmp c => cases r
    | _ => exact h
  | @tmp c a u n hu r =>
    have ha : H a = none := fr c a rfl rfl
    have sy : Stay ρ1 (ρ1 ++ [a]) H1 H1 := ⟨⟨[a], rfl⟩, fun _ _ h => h, fun b o w h hn => ⟨fun z => by
      rcases List.mem_append.mp z with z | z
      · exact hn z
      · rw [List.mem_singleton.mp z, hu] at h
        cases h
        cases c with
        | lst xs => obtain ⟨_, e, _⟩ := r; cases e
        | dct xs => obtain ⟨_, e, _⟩ := r; cases e
        | lck xs => exact r, h⟩⟩
    refine ⟨.ref st.length, ρ1 ++ [a], st ++ [c], ?_, sy, ?_, .ref ?_, h⟩
    · obtain ⟨e, q, hn⟩ := g.pre
      refine ⟨⟨e ++ [a], by rw [q, List.append_assoc], fun x hx => ?_⟩, g.keep, g.tup, g.frz, g.dom⟩
      rcases List.mem_append.mp hx with hx | hx
      · exact hn x hx
      · rw [List.mem_singleton.mp hx]; exact ha
    · refine ⟨by simp [s.len], ?_, fun n' c' a' e1 e2 => ?_⟩
      · exact List.nodup_append.mpr ⟨s.nd, by simp, fun x hx y hy => by rw [List.mem_singleton.mp hy]; rintro rfl; exact n hx⟩
      · by_cases hl : n' < st.length
        · rw [List.getElem?_append_left hl] at e1
          rw [List.getElem?_append_left (by rw [s.len]; exact hl)] at e2
          exact (s.at_ n' c' a' e1 e2).stay sy rfl
        · have hn : n' = st.length := by
            by_cases q : n' = st.length
            · exact q
            · rw [List.getElem?_eq_none (by simp; omega)] at e1; cases e1
          subst hn
          rw [List.getElem?_append_right (Nat.le_refl _), Nat.sub_self] at e1
          rw [← s.len, List.getElem?_append_right (Nat.le_refl _), Nat.sub_self] at e2
          cases e1
          cases e2
          have r' := r.stay sy
          cases c with
          | lst xs => exact ⟨u, hu, r'⟩
          | dct xs => exact ⟨u, hu, r'⟩
          | lck xs => exact r'.elim
    · rw [← s.len, List.getElem?_append_right (Nat.le_refl _), Nat.sub_self]; rfl
end
end Ev
set_option Elab.async false
set_option linter.all false
set_option maxRecDepth 100000
set_option maxHeartbeats 4000000
/-! Ev, part 3: expressions. -/
namespace Ev
open PySem PySem.Spec PyProof.Rows L2

abbrev DE (X : Cx) (E : EK) (e : Expr) (f : Ex) : Prop := PE X e (tOf X.K E f)
abbrev DT (X : Cx) (E : EK) (e : Expr) (t : Te) : Prop := PT X e (Ev.tTest X.K E t)
abbrev DW (X : Cx) (E : EK) (e : Expr) (t : Te) : Prop := PW X e (Ev.tTest X.K E t)
abbrev DA (X : Cx) (E : EK) (es : List Expr) (f : Fr → M (List D)) : Prop := PA X es (tArgs X.K E f)
section
variable {X : Cx} {E : EK} {e a b c : Expr} {f fa fb fc : Ex} {pos : Pos}

theorem pe_imp {t t' : TE} (h : PE X e t) (k : ∀ σ H Q, t' σ H Q → t σ H Q) : PE X e t' := ⟨fun pins s σ H Q I w => h.run pins s σ H Q I (k σ H Q w)⟩
theorem pt_imp {t t' : TT} (h : PT X e t) (k : ∀ σ H Q, t' σ H Q → t σ H Q) : PT X e t' := ⟨fun pins s σ H Q I w => h.run pins s σ H Q I (k σ H Q w)⟩
theorem pw_imp {t t' : TT} (h : PW X e t) (k : ∀ σ H Q, t' σ H Q → t σ H Q) : PW X e t' := ⟨fun wh pins s σ H Q I w => h.run wh pins s σ H Q I (k σ H Q w)⟩
theorem pa_imp {es : List Expr} {t t' : TA} (h : PA X es t) (k : ∀ σ H Q, t' σ H Q → t σ H Q) : PA X es t' := ⟨fun p pins s σ H Q I w => h.run p pins s σ H Q I (k σ H Q w)⟩

theorem Wp.re {K : PySem.W.Frag} {E : EK} {r : R D} {ρ ρ1 : List Addr} {H H1 : Hp} {Q : D → V → Sto → List Addr → Hp → Prop} (h : Wp K E r ρ H (Pd K H Q)) (g : Grow ρ ρ1 H H1) : Wp K E r ρ1 H1 (Pd K H1 Q) :=
  (h.base g).mono fun _ _ _ _ _ _ p v r f => p v r (f.base g)
/-- the first of two pieces -/
theorem tOf.bnd {K : PySem.W.Frag} {E : EK} {ρ : List Addr} {H : Hp} {fr : Fr} {σ : L2.St} {st : Sto} {f : Ex} {β : Type} {g : D → M β} {P : β → Sto → List Addr → Hp → Prop} {Q : V → Hp → Prop}
    (rf : RepF K ρ H fr σ) (rs : RepS K ρ H st) (w : Wp K E ((f fr st).bnd g) ρ H P)
    (k : ∀ d v st1 ρ1 H1, Grow ρ ρ1 H H1 → RepS K ρ1 H1 st1 → RepF K ρ1 H1 fr σ → RepH K ρ1 H1 d v → Fresh H d v → Wp K E (g d st1) ρ H P → Q v H1) : tOf K E f σ H Q :=
  ⟨ρ, fr, st, rf, rs, w.bnd.mono fun d st1 ρ1 H1 g1 s1 w1 v rh f1 => k d v st1 ρ1 H1 g1 s1 (rf.stay g1.stay) rh f1 w1⟩
theorem tTest.bnd {K : PySem.W.Frag} {E : EK} {ρ : List Addr} {H : Hp} {fr : Fr} {σ : L2.St} {st : Sto} {f : Te} {β : Type} {g : Bool → M β} {P : β → Sto → List Addr → Hp → Prop} {Q : Bool → Hp → Prop}
    (rf : RepF K ρ H fr σ) (rs : RepS K ρ H st) (w : Wp K E ((f fr st).bnd g) ρ H P)
    (k : ∀ b st1 ρ1 H1, Grow ρ ρ1 H H1 → RepS K ρ1 H1 st1 → RepF K ρ1 H1 fr σ → Wp K E (g b st1) ρ H P → Q b H1) : Ev.tTest K E f σ H Q :=
  ⟨ρ, fr, st, rf, rs, w.bnd.mono fun d st1 ρ1 H1 g1 s1 w1 => k d st1 ρ1 H1 g1 s1 (rf.stay g1.stay) w1⟩
theorem tArgs.bnd {K : PySem.W.Frag} {E : EK} {ρ : List Addr} {H : Hp} {fr : Fr} {σ : L2.St} {st : Sto} {f : Fr → M (List D)} {β : Type} {g : List D → M β} {P : β → Sto → List Addr → Hp → Prop} {Q : List V → Hp → Prop}
    (rf : RepF K ρ H fr σ) (rs : RepS K ρ H st) (w : Wp K E ((f fr st).bnd g) ρ H P)
    (k : ∀ ds vs st1 ρ1 H1, Grow ρ ρ1 H H1 → RepS K ρ1 H1 st1 → RepF K ρ1 H1 fr σ → RepL K ρ1 H1 ds vs → Wp K E (g ds st1) ρ H P → Q vs H1) : tArgs K E f σ H Q :=
  ⟨ρ, fr, st, rf, rs, w.bnd.mono fun d st1 ρ1 H1 g1 s1 w1 vs rl => k d vs st1 ρ1 H1 g1 s1 (rf.stay g1.stay) rl w1⟩
/-- an answer in hand that is kept -/
theorem Pd.kept {K : PySem.W.Frag} {E : EK} {ρ ρ1 : List Addr} {H H1 : Hp} {d : D} {st : Sto} {v : V} {Q : D → V → Sto → List Addr → Hp → Prop} (w : Wp K E (.ok d st) ρ H (Pd K H Q)) (g : Grow ρ ρ1 H H1) (s : RepS K ρ1 H1 st) (r : Rep K ρ1 H1 d v) : Q d v st ρ1 H1 :=
  w ρ1 H1 g s v (.kept r) (Fresh.kept r)
theorem Pd.tmp {K : PySem.W.Frag} {E : EK} {ρ ρ1 : List Addr} {H H1 : Hp} {st : Sto} {c : Cell} {p : Addr} {u : HO} {Q : D → V → Sto → List Addr → Hp → Prop} (w : Wp K E (.ok (.tmp c) st) ρ H (Pd K H Q)) (g : Grow ρ ρ1 H H1) (s : RepS K ρ1 H1 st) (hp : H1 p = none)
    (r : RepU K ρ1 (upd H1 p u) c u) : Q (.tmp c) (.ref p) st ρ1 (upd H1 p u) :=
  w ρ1 (upd H1 p u) (g.trans (.new hp)) (s.new hp) (.ref p) (.tmp (s.out hp) upd_same r) fun _ _ _ e => by
    cases e
    exact g.free hp

/-! ### names, constants -/
theorem de_var {i : Nat} {x : Str} (hN : X.N[i]? = some x) (hv : Vis X.env.scope x) (hd : (x == ("__debug__" : Str)) = false := by decide) (hcd : (x == ("__classdict__" : Str)) = false := by decide) : DE X E (.Name x pos) (varE i) := by
  refine pe_imp (pe_var hN hv hd hcd) fun σ H Q ⟨ρ, fr, st, rf, rs, w⟩ => ?_
  unfold varE at w
  split at w
  · rename_i d e
    obtain ⟨v, e2, r⟩ := rf.at_ i d e
    exact ⟨v, e2, Pd.kept w .refl rs r⟩
  · exact w.elim
theorem de_int {i : Int} {j : Nat} : DE X E (.Constant (.int i) j pos) (conE (.int i)) := pe_imp pe_int fun σ H Q ⟨ρ, fr, st, rf, rs, w⟩ => Pd.kept w .refl rs (.int i)
theorem de_bl {i : Bool} {j : Nat} : DE X E (.Constant (.bool i) j pos) (conE (.bl i)) := pe_imp pe_bl fun σ H Q ⟨ρ, fr, st, rf, rs, w⟩ => Pd.kept w .refl rs (.bl i)
theorem de_non {j : Nat} : DE X E (.Constant .none j pos) (conE .non) := pe_imp pe_non fun σ H Q ⟨ρ, fr, st, rf, rs, w⟩ => Pd.kept w .refl rs .non
theorem de_str {i : Str} {j : Nat} : DE X E (.Constant (.str i) j pos) (conE (.str i)) := pe_imp pe_str fun σ H Q ⟨ρ, fr, st, rf, rs, w⟩ => Pd.kept w .refl rs (.str i)
/-- a value of the module, told once for every heap -/
def GloV (K : PySem.W.Frag) (d : D) (v : V) : Prop := ∀ ρ H, Rep K ρ H d v
theorem de_glob {x : Str} {v : V} {u : Value} {d : D} (hg : Gl X x) (hm : X.mg x = some u) (r : RelV v u) (hr : GloV X.K d v) (hd : (x == ("__debug__" : Str)) = false := by decide) : DE X E (.Name x pos) (conE d) :=
  pe_imp (pe_glob hg hm r hd) fun σ H Q ⟨ρ, fr, st, rf, rs, w⟩ => Pd.kept w .refl rs (hr ρ H)

/-! ### arguments, displays -/
theorem allS_len : ∀ {fs : List Ex} {fr : Fr} {st st' : Sto} {ds : List D}, allS fs fr st = .ok ds st' → ds.length = fs.length
  | [], _, _, _, _, h => by cases h; rfl
  | f :: fs, fr, st, st', ds, h => by
    have h' : (f fr st).bnd (fun d => bnd (settle d) fun d => bnd (allS fs fr) fun ds => ret (d :: ds)) = .ok ds st' := h
    cases q : f fr st with
    | ok d st1 =>
      rw [q] at h'
      have h2 : (settle d st1).bnd (fun d => bnd (allS fs fr) fun ds => ret (d :: ds)) = .ok ds st' := h'
      cases q2 : settle d st1 with
      | ok d2 st2 =>
        rw [q2] at h2
        have h3 : (allS fs fr st2).bnd (fun ds => ret (d2 :: ds)) = .ok ds st' := h2
        cases q3 : allS fs fr st2 with
        | ok ds3 st3 =>
          rw [q3] at h3
          cases h3
          simp [allS_len q3]
        | exc _ _ _ => rw [q3] at h3; cases h3
        | stuck => rw [q3] at h3; cases h3
      | exc _ _ _ => rw [q2] at h2; cases h2
      | stuck => rw [q2] at h2; cases h2
    | exc _ _ _ => rw [q] at h'; cases h'
    | stuck => rw [q] at h'; cases h'
theorem da_nil : DA X E [] (allS []) := pa_imp pa_nil fun σ H Q ⟨ρ, fr, st, rf, rs, w⟩ => w ρ H .refl rs [] .nil
theorem da_cons {es : List Expr} {fs : List Ex} (ha : DE X E e f) (hr : DA X E es (allS fs)) (hs : starEach (e :: es) X.env = (false, eval e X.env) :: starEach es X.env := by rfl) : DA X E (e :: es) (allS (f :: fs)) := by
  refine pa_imp (pa_cons ha hr hs) fun σ H Q ⟨ρ, fr, st, rf, rs, w⟩ => ?_
  refine tOf.bnd rf rs w fun d v st1 ρ1 H1 g1 s1 rf1 rh f1 w1 => ?_
  obtain ⟨d', ρ2, st2, g2, y2, s2, r2, w2⟩ := settled w1 g1 s1 rh f1
  refine tArgs.bnd (rf1.stay y2) s2 (w2.base g2) fun ds vs st3 ρ3 H3 g3 s3 rf3 rl w3 => ?_
  exact w3 ρ3 H3 g3 s3 (v :: vs) (.cons (r2.stay g3.stay) rl)
/-- a tuple display: its object is told whole -/
theorem pe_tupX {es : List Expr} {t : TA} {x1 : Nat} (h : PA X es t) : PE X (.Tuple es x1 pos) (fun σ H Q => t σ H fun xs H1 => xs.length ≤ sizeLine ∧ ∀ (p : Addr) (o : Obj), H1 p = none → o.dict = none → o.cls = .type "tuple" → Q (.ref p) (upd H1 p (.frz o (.tup xs)))) := by
  refine ⟨fun pins s σ H Q I hq => ?_⟩
  refine wpAny_Tuple_spliced (thn (h.run pos pins s σ H _ I hq) fun us s1 ⟨xs, H1, I1, r, z, q⟩ => ⟨by rw [← r.length]; exact z, ?_⟩)
  have hf : H1 s1.heap.objs.size = none := I1.hok.fresh (Nat.le_refl _)
  refine ⟨.ref s1.heap.objs.size, upd H1 s1.heap.objs.size (.frz { cls := .type "tuple", data := .seq us.toArray } (.tup xs)), I1.laid (t' := s1.toks) (fun b u e => Heap.get?_push_of_some _ e) (Nat.le_refl _) ?_, rfl, q _ _ hf rfl rfl⟩
  exact ⟨Heap.get?_push_size _ rfl, z, us, r, ⟨_, Heap.get?_push_size _ rfl, rfl, _, rfl⟩⟩
/-- a new tuple in hand -/
theorem Pd.tup {K : PySem.W.Frag} {E : EK} {ρ ρ1 : List Addr} {H H1 : Hp} {st : Sto} {ds : List D} {vs : List V} {p : Addr} {o : Obj} {Q : D → V → Sto → List Addr → Hp → Prop} (w : Wp K E (.ok (.tup ds) st) ρ H (Pd K H Q)) (g : Grow ρ ρ1 H H1) (s : RepS K ρ1 H1 st) (hp : H1 p = none)
    (hd : o.dict = none) (hc : o.cls = .type "tuple") (r : RepL K ρ1 H1 ds vs) : Q (.tup ds) (.ref p) st ρ1 (upd H1 p (.frz o (.tup vs))) :=
  have n : Grow ρ1 ρ1 H1 (upd H1 p (.frz o (.tup vs))) := .new hp
  Pd.kept w (g.trans n) (s.new hp) (.tup (.inl ⟨o, upd_same, s.out hp, hd, hc⟩) (r.stay n.stay))
theorem small_of {n : Nat} (h : n ≤ 1000) : n ≤ sizeLine := Nat.le_trans h (by rw [sizeLine_eq]; decide)
theorem de_tup {es : List Expr} {fs : List Ex} {x1 : Nat} (h : DA X E es (allS fs)) (hz : fs.length ≤ 1000 := by decide) : DE X E (.Tuple es x1 pos) (tupE fs) := by
  refine pe_imp (pe_tupX h) fun σ H Q ⟨ρ, fr, st, rf, rs, w⟩ => ?_
  have w' : Wp X.K E ((allS fs fr st).bnd fun ds => ret (.tup ds)) ρ H (Pd X.K H fun _ v _ _ H' => Q v H') := w
  cases q : allS fs fr st with
  | ok ds st1 =>
    have hl := allS_len q
    refine ⟨ρ, fr, st, rf, rs, ?_⟩
    rw [q] at w' ⊢
    intro ρ1 H1 g1 s1 vs rl
    refine ⟨by rw [← rl.length, hl]; exact small_of hz, fun p o hp hd hc => ?_⟩
    exact Pd.tup (Q := fun _ v _ _ H' => Q v H') w' g1 s1 hp hd hc rl
  | exc c d st1 => rw [q] at w'; exact ⟨ρ, fr, st, rf, rs, by rw [q]; exact w'⟩
  | stuck => rw [q] at w'; exact w'.elim
theorem de_lst {es : List Expr} {fs : List Ex} (h : DA X E es (allS fs)) (hz : fs.length ≤ 1000 := by decide) : DE X E (.List es pos) (lstE fs) := by
  refine pe_imp (pe_lst h) fun σ H Q ⟨ρ, fr, st, rf, rs, w⟩ => ?_
  have w' : Wp X.K E ((allS fs fr st).bnd fun ds => ret (.tmp (.lst ds))) ρ H (Pd X.K H fun _ v _ _ H' => Q v H') := w
  cases q : allS fs fr st with
  | ok ds st1 =>
    have hl := allS_len q
    refine ⟨ρ, fr, st, rf, rs, ?_⟩
    rw [q] at w' ⊢
    intro ρ1 H1 g1 s1 vs rl
    refine ⟨by rw [← rl.length, hl]; exact small_of hz, fun p hp => ?_⟩
    exact Pd.tmp (Q := fun _ v _ _ H' => Q v H') w' g1 s1 hp ⟨vs, rfl, rl.stay (Grow.new (ρ := ρ1) hp).stay⟩
  | exc c d st1 => rw [q] at w'; exact ⟨ρ, fr, st, rf, rs, by rw [q]; exact w'⟩
  | stuck => rw [q] at w'; exact w'.elim

/-! ### operators by values -/
def rOf (K : PySem.W.Frag) (E : EK) (f : D → D → M D) : R2 := fun x y H Q => ∃ ρ st d e, RepS K ρ H st ∧ RepH K ρ H d x ∧ RepH K ρ H e y ∧ Wp K E (f d e st) ρ H (Pd K H fun _ v _ _ H' => Q v H')
def rOf1 (K : PySem.W.Frag) (E : EK) (f : D → M D) : V → Hp → VK → Prop := fun x H Q => ∃ ρ st d, RepS K ρ H st ∧ RepH K ρ H d x ∧ Wp K E (f d st) ρ H (Pd K H fun _ v _ _ H' => Q v H')
theorem tOp_of {K : PySem.W.Frag} {f : D → D → M D} {σ : L2.St} {H : Hp} {Q : VK} (h : tOf K E (bin2 f fa fb) σ H Q) : tOp (rOf K E f) (tOf K E fa) (tOf K E fb) σ H Q := by
  obtain ⟨ρ, fr, st, rf, rs, w⟩ := h
  refine tOf.bnd rf rs w fun x v st1 ρ1 H1 g1 s1 rf1 rh f1 w1 => ?_
  refine tOf.bnd rf1 s1 (w1.re g1) fun y u st2 ρ2 H2 g2 s2 rf2 rh2 f2 w2 => ?_
  exact ⟨ρ2, st2, x, y, s2, rh.grow g2, rh2, w2.re g2⟩
theorem de_op {op : Operator} {g : D → D → M D} (ho : OpR X (binaryOp op) (rOf X.K E g)) (ha : DE X E a fa) (hb : DE X E b fb) : DE X E (.BinOp a op b pos) (bin2 g fa fb) :=
  pe_imp (pe_op ho ha hb) fun σ H Q h => tOp_of h
theorem de_cmp {op : CmpOp} {g : D → D → M D} (ho : OpR X (compareOp op) (rOf X.K E g)) (ha : DE X E a fa) (hb : DE X E b fb) (hm : behindInMarks op b = false) : DE X E (.Compare a [op] [b] pos) (bin2 g fa fb) :=
  pe_imp (pe_cmpR ho ha hb hm) fun σ H Q h => tOp_of h
theorem de_un {op : UnaryOp} {g : D → M D} (ho : UnR X (unaryOp op) (rOf1 X.K E g)) (ha : DE X E a fa) : DE X E (.UnaryOp op a pos) (un1 g fa) :=
  pe_imp (pe_un ho ha) fun σ H Q ⟨ρ, fr, st, rf, rs, w⟩ => tOf.bnd rf rs w fun x v st1 ρ1 H1 g1 s1 rf1 rh f1 w1 => ⟨ρ1, st1, x, s1, rh, w1.re g1⟩
end
end Ev
set_option Elab.async false
set_option linter.all false
set_option maxRecDepth 100000
set_option maxHeartbeats 4000000
/-! Ev, part 4: tuples told with their whole object: sum, slice, tuple(list). -/
namespace EvT
open PySem PySem.W PySem.Calls PyProof.Rows
theorem tuple_addW0 (l b : Addr) (items items2 : Array Value) (n n2 : Nat) (dd dd2 : Option Addr) (sl sl2 : Array (Option Value)) (hc0 : items.isEmpty = true) :
    Meets (Builtin.«tuple.__add__» ⟨[.ref l, .ref b], []⟩) (fun _ R s => s.heap.get? l = some { cls := .type "tuple", dict := dd, data := .seq items n, slots := sl } ∧ s.heap.get? b = some { cls := .type "tuple", dict := dd2, data := .seq items2 n2, slots := sl2 } ∧ R (.ok (.ret (Value.ref b))) { s with heap := s.heap, toks := s.toks }) :=
  .of_wp fun prog w A R s h => by obtain ⟨hp, g, d, tk, os⟩ := s; obtain ⟨hl, hb, h⟩ := h; have f1 := AutoSeq1.idx_int; have f2 := AutoSeq1.sub_tuple_tuple; have f3 := AutoSeq1.sub_list_list; have f4 := AutoSeq1.sub_tuple_list; have f5 := AutoSeq1.sub_list_tuple; wp_walk using wpAny_loadPart' hl, wpAny_loadPart' hb; exact ⟨_, rfl, h⟩
section
variable {prog : Program} {w : World} {A : Around} {E : Value → Shared → Prop} {s : Shared}
theorem cat_nil {t b : Addr} {vs ws : List Value} {Q : Value → Shared → Prop} (ht : IsTup s.heap t vs.toArray) (hb : IsTup s.heap b ws.toArray) (hv : vs = []) (h1 : Q (.ref b) s) : wpAny (model prog w) A (binaryOp .Add (.ref t) (.ref b)) Q E s := by
  obtain ⟨⟨cls, dd, data, sl⟩, ho, hc, n, hd⟩ := id ht
  obtain ⟨⟨cls2, dd2, data2, sl2⟩, ho2, hc2, n2, hd2⟩ := id hb
  simp only at hc hd hc2 hd2
  subst hc hd hc2 hd2
  exact concat_meets ⟨_, ho, rfl⟩ ⟨_, ho2, rfl⟩ noFill_tuple_add seq_tuple_add PySem.F.slot_tuple_add PySem.F.entry_tuple_add (PySem.F.args_tuple_add_2 _ _)
      (tuple_addW0 t b vs.toArray ws.toArray n n2 dd dd2 sl sl2 (by simp [hv])) ⟨ho, ho2, h1⟩
theorem getItem_tuple_whole {t sl : Addr} {items : Array Value} {vl vu : Value} {lo hi : Option Int} {Q : Value → Shared → Prop} (ht : IsTup s.heap t items) (hs : s.heap.IsSliceOf sl vl vu .none) (pl : IsPart vl lo) (pu : IsPart vu hi)
    (hw : HT.sIx items.size 0 lo = 0 ∧ HT.sIx items.size items.size hi = items.size) (h : Q (.ref t) s) : wpAny (model prog w) A (getItem (.ref t) (.ref sl)) Q E s := by
  obtain ⟨os, hos, hcs, hds⟩ := id hs
  have hTs : s.TypeIs (.ref sl) "slice" := ⟨os, hos, hcs⟩
  unfold getItem
  try with_reducible refine wpAny_holding ?_
  first | refine wpAny_bind (wpAny_pure ?_) | skip
  refine wpAny_bind (wpAny_sequenceKey ht.typeIs (by decide) ?_)
  refine wpAny_bind (wpAny_callSpecial?_slot (name := Str.ofString "__getitem__") ht.typeIs PyProof.Rows.slot_tuple_getitem
    (wpAny_call_entry PyProof.Rows.slot_tuple_getitem ht.typeIs entry_tuple_getitem ?_ (args_tuple_getitem _ _)))
  show wpAny _ _ (Builtin.Tuple.tupleItemsOf (.ref t) >>= _) _ _ s
  refine wpAny_bind (tupleItemsOf_ ht ?_)
  refine wpAny_bind (wpAny_typeOf hTs ?_)
  rw [if_pos (by decide)]
  refine wpAny_bind (HT.sliceApplied_gen hs pl pu ?_)
  have hyes : ((((HT.sIx items.size 0 lo : Nat) : Int) == 0 && (1 : Int) == 1 && (HT.sIx items.size items.size hi - HT.sIx items.size 0 lo) == items.size) = true) := by
    rw [hw.1, hw.2]; simp
  show wpAny _ _ (if (((HT.sIx items.size 0 lo : Nat) : Int) == 0 && (1 : Int) == 1 && (HT.sIx items.size items.size hi - HT.sIx items.size 0 lo) == items.size) = true then _ else _) _ _ s
  rw [if_pos hyes]
  unfold Builtin.Tuple.tupleIsExact
  refine wpAny_bind (wpAny_bind (wpAny_typeOf ht.typeIs (wpAny_pure ?_)))
  rw [if_pos (by decide)]
  refine wpAny_bind (wpAny_rule ?_)
  first
    | exact wpAny_bind (wpAny_pure ⟨_, rfl, wpAny_pure h⟩)
    | exact wpAny_bind (wpAny_bind (wpAny_pure (wpAny_pure ⟨_, rfl, wpAny_pure h⟩)))
    | exact wpAny_bind (wpAny_pure (wpAny_pure ⟨_, rfl, wpAny_pure h⟩))
end
end EvT
set_option Elab.async false
set_option linter.all false
set_option maxRecDepth 100000
set_option maxHeartbeats 4000000
/-! Ev, part 5: operators, comparisons, subscripts, calls of built-ins. -/
namespace Ev
open PySem PySem.Spec PyProof.Rows L2
section
variable {K : PySem.W.Frag} {ρ : List Addr} {H : Hp}
theorem RepH.int {i : Int} {v : V} (h : RepH K ρ H (.int i) v) : v = .int i := by cases h with | kept h => cases h; rfl
theorem RepH.bl {i : Bool} {v : V} (h : RepH K ρ H (.bl i) v) : v = .bl i := by cases h with | kept h => cases h; rfl
theorem RepH.str {i : Str} {v : V} (h : RepH K ρ H (.str i) v) : v = .str i := by cases h with | kept h => cases h; rfl
theorem RepH.non {v : V} (h : RepH K ρ H .non v) : v = .non := by cases h with | kept h => cases h; rfl
theorem RepH.tup {xs : List D} {v : V} (h : RepH K ρ H (.tup xs) v) : ∃ a vs, v = .ref a ∧ TupX K ρ H a vs ∧ RepL K ρ H xs vs := by cases h with | kept h => cases h with | tup h1 h2 => exact ⟨_, _, rfl, h1, h2⟩
theorem RepH.tmpL {xs : List D} {v : V} (h : RepH K ρ H (.tmp (.lst xs)) v) : ∃ a vs, v = .ref a ∧ a ∉ ρ ∧ H a = some (.lst vs) ∧ RepL K ρ H xs vs := by
  cases h with
  | kept h => cases h
  | tmp h1 h2 h3 => obtain ⟨vs, rfl, r⟩ := h3; exact ⟨_, vs, rfl, h1, h2, r⟩
theorem RepH.cellRef {st : Sto} (s : RepS K ρ H st) {n : Nat} {v : V} (h : RepH K ρ H (.ref n) v) {c : Cell} (e : st[n]? = some c) : ∃ a, v = .ref a ∧ ρ[n]? = some a ∧ RepC K ρ H c a := by
  cases h with
  | kept h => cases h with | ref h1 => exact ⟨_, rfl, h1, s.at_ n c _ e h1⟩
theorem TupX.inj_len {a : Addr} {xs : List D} {vs : List V} (r : RepL K ρ H xs vs) : vs.length = xs.length := r.length.symm
end
section
variable {X : Cx} {E : EK}

theorem opI0X {f : Value → Value → Sem Value} {g : Int → Int → V} (h : OpR X f (rI0 g)) {gD : D → D → M D} {gI : Int → Int → D} (hg : ∀ i j st, gD (.int i) (.int j) st = .ok (gI i j) st) (hr : ∀ i j, GloV X.K (gI i j) (g i j))
    {pins : List (Addr × Obj)} {s : Shared} {σ : L2.St} {H : Hp} {x y : V} {v u : Value} {Q : VK} (I : Inv X pins σ H s) (rx : RelV x v) (ry : RelV y u) {ρ : List Addr} {st : Sto} {i j : Int} (rs : RepS X.K ρ H st) (rd : RepH X.K ρ H (.int i) x) (re : RepH X.K ρ H (.int j) y)
    (w : Wp X.K E (gD (.int i) (.int j) st) ρ H (Pd X.K H fun _ v _ _ H' => Q v H')) : wpAny (model X.prog X.w) X.A (f v u) (EP X pins σ Q) X.xe s := by
  rw [hg] at w
  exact h pins s σ H x y v u Q I rx ry ⟨i, j, rd.int, re.int, Pd.kept (Q := fun _ v _ _ H' => Q v H') w .refl rs (hr i j ρ H)⟩
theorem glo_int (K : PySem.W.Frag) (i : Int) : GloV K (.int i) (.int i) := fun _ _ => .int i
theorem glo_bl (K : PySem.W.Frag) (i : Bool) : GloV K (.bl i) (.bl i) := fun _ _ => .bl i
theorem glo_str (K : PySem.W.Frag) (i : Str) : GloV K (.str i) (.str i) := fun _ _ => .str i

/-- t + u of tuples, the new one told whole -/
theorem op_catX {pins : List (Addr × Obj)} {s : Shared} {σ : L2.St} {H : Hp} {a b : Addr} {xs ys : List V} {Q : VK} (I : Inv X pins σ H s) (ha : SqT X.K H a xs) (hb : SqT X.K H b ys) (hz : xs.length + ys.length ≤ sizeLine)
    (q0 : xs = [] → Q (.ref b) H) (q1 : xs ≠ [] → ys = [] → Q (.ref a) H) (q2 : xs ≠ [] → ys ≠ [] → ∀ (p : Addr) (o : Obj), H p = none → o.dict = none → o.cls = .type "tuple" → Q (.ref p) (upd H p (.frz o (.tup (xs ++ ys))))) :
    wpAny (model X.prog X.w) X.A (binaryOp .Add (.ref a) (.ref b)) (EP X pins σ Q) X.xe s := by
  obtain ⟨its, r1, p1, _⟩ := I.tuple ha
  obtain ⟨its2, r2, p2, _⟩ := I.tuple hb
  by_cases hx : xs = []
  · exact EvT.cat_nil p1 p2 (r1.nil_iff.mpr hx) ⟨.ref b, H, I, rfl, q0 hx⟩
  refine HT.cat_tup p1 p2 (fun z => hx (r1.nil_iff.mp z)) (fun z => ⟨.ref a, H, I, rfl, q1 hx (r2.nil_iff.mp z)⟩) (fun z => ?_) (by rw [← r1.length, ← r2.length]; exact hz)
  refine ⟨.ref s.heap.objs.size, _, I.laid (t' := s.toks) (o := .frz { cls := .type "tuple", data := .seq (its ++ its2).toArray } (.tup (xs ++ ys))) (fun b ob q => Heap.get?_push_of_some _ q) (Nat.le_refl _) ?_, rfl, q2 hx (fun w => z (r2.nil_iff.mpr w)) _ _ (I.hok.fresh (Nat.le_refl _)) rfl rfl⟩
  exact ⟨Heap.get?_push_size _ rfl, by rw [List.length_append]; exact hz, _, r1.append r2, IsTup.new _ _⟩
theorem op_addD : OpR X (binaryOp .Add) (rOf X.K E addD) := by
  intro pins s σ H x y v u Q I rx ry ⟨ρ, st, d, e, rs, rd, re, w⟩
  unfold addD at w
  split at w
  · rename_i i j
    exact opI0X op_add (gD := addD) (fun _ _ _ => rfl) (fun i j => glo_int X.K (i + j)) I rx ry rs rd re w
  · rename_i i b
    have h1 := rd.int
    have h2 := re.bl
    exact op_add_ib pins s σ H x y v u Q I rx ry ⟨i, b, h1, h2, Pd.kept (Q := fun _ v _ _ H' => Q v H') w .refl rs (.int _)⟩
  · rename_i a b
    split at w
    · rename_i hz
      exact op_add_str pins s σ H x y v u Q I rx ry ⟨a, b, rd.str, re.str, of_decide_eq_true hz, Pd.kept (Q := fun _ v _ _ H' => Q v H') w .refl rs (.str _)⟩
    · exact w.elim
  · rename_i a as bs
    split at w
    · rename_i hz
      obtain ⟨p, vs, rfl, t1, l1⟩ := rd.tup
      obtain ⟨q, ws, rfl, t2, l2⟩ := re.tup
      cases rx
      cases ry
      have hz' : (a :: as).length + bs.length ≤ sizeLine := of_decide_eq_true hz
      refine op_catX I t1.sq t2.sq (by rw [← l1.length, ← l2.length]; exact hz') (fun z => ?_) (fun z z2 => ?_) (fun z z2 p o hp hd hc => ?_)
      · rw [z] at l1; cases l1
      · have e : bs = [] := by cases bs with
          | nil => rfl
          | cons b bs => rw [z2] at l2; cases l2
        subst e
        exact Pd.kept (Q := fun _ v _ _ H' => Q v H') w .refl rs (.tup t1 (by simpa using l1))
      · exact Pd.tup (Q := fun _ v _ _ H' => Q v H') w .refl rs hp hd hc (l1.append l2)
    · exact w.elim
  · rename_i bs
    obtain ⟨p, vs, rfl, t1, l1⟩ := rd.tup
    obtain ⟨q, ws, rfl, t2, l2⟩ := re.tup
    cases rx
    cases ry
    have e : vs = [] := by cases l1; rfl
    subst e
    obtain ⟨_, _, _, z2⟩ := I.tuple t2.sq
    exact op_catX I t1.sq t2.sq (by simpa using z2) (fun z => Pd.kept (Q := fun _ v _ _ H' => Q v H') w .refl rs (.tup t2 l2)) (fun z => absurd rfl z) (fun z => absurd rfl z)
  · split at w
    · rename_i as bs e1 e2
      split at w
      · rename_i hz
        have hz' : as.length + bs.length ≤ sizeLine := of_decide_eq_true hz
        obtain ⟨p, vs, rfl, t1, l1⟩ := rs.read rd e1
        obtain ⟨q, ws, rfl, t2, l2⟩ := rs.read re e2
        cases rx
        cases ry
        obtain ⟨its, r1, p1, _⟩ := I.list t1
        obtain ⟨its2, r2, p2, _⟩ := I.list t2
        have ee : its.toArray ++ its2.toArray = (its ++ its2).toArray := by simp
        have hl : its.length + its2.length ≤ sizeLine := by rw [← r1.length, ← r2.length, ← l1.length, ← l2.length]; exact hz'
        obtain ⟨⟨c1, d1, dt1, sl1⟩, n1, g1, hc1, hd1, hq1⟩ := p1
        obtain ⟨⟨c2, d2, dt2, sl2⟩, n2, g2, hc2, hd2, hq2⟩ := p2
        simp only at hc1 hd1 hq1 hc2 hd2 hq2
        subst hc1 hd1 hq1 hc2 hd2 hq2
        refine concat_meets ⟨_, g1, rfl⟩ ⟨_, g2, rfl⟩ noFill_list_add seq_list_add PySem.F.slot_list_add PySem.F.entry_list_add (PySem.F.args_list_add_2 _ _) (list_addW p q its.toArray its2.toArray n1 n2 none none sl1 sl2 (by simpa using hl)) ⟨g1, g2, ?_⟩
        rw [ee]
        have hf : H s.heap.objs.size = none := I.hok.fresh (Nat.le_refl _)
        exact ⟨.ref s.heap.objs.size, _, I.laid (t' := s.toks) (o := .lst (vs ++ ws)) (fun b ob q => Heap.get?_push_of_some _ q) (Nat.le_refl _) ⟨by rw [List.length_append, ← l1.length, ← l2.length]; exact hz', _, 0, r1.append r2, Heap.get?_push_size _ rfl⟩, rfl,
          Pd.tmp (Q := fun _ v _ _ H' => Q v H') w .refl rs hf ⟨_, rfl, (l1.append l2).stay (Grow.new (ρ := ρ) hf).stay⟩⟩
      · exact w.elim
    · exact w.elim
theorem op_subD : OpR X (binaryOp .Sub) (rOf X.K E subD) := by
  intro pins s σ H x y v u Q I rx ry ⟨ρ, st, d, e, rs, rd, re, w⟩
  unfold subD at w
  split at w
  · exact opI0X op_sub (gD := subD) (fun _ _ _ => rfl) (fun i j => glo_int X.K (i - j)) I rx ry rs rd re w
  · exact w.elim
theorem op_modD : OpR X (binaryOp .Mod) (rOf X.K E modD) := by
  intro pins s σ H x y v u Q I rx ry ⟨ρ, st, d, e, rs, rd, re, w⟩
  unfold modD at w
  split at w
  · rename_i i j
    split at w
    · exact w.elim
    · rename_i hj
      exact op_modN pins s σ H x y v u Q I rx ry ⟨i, j, rd.int, re.int, hj, Pd.kept (Q := fun _ v _ _ H' => Q v H') w .refl rs (.int _)⟩
  · exact w.elim
theorem op_fdivD : OpR X (binaryOp .FloorDiv) (rOf X.K E fdivD) := by
  intro pins s σ H x y v u Q I rx ry ⟨ρ, st, d, e, rs, rd, re, w⟩
  unfold fdivD at w
  split at w
  · rename_i i j
    split at w
    · rename_i hj
      exact op_fdivN pins s σ H x y v u Q I rx ry ⟨i, j, rd.int, re.int, hj, Pd.kept (Q := fun _ v _ _ H' => Q v H') w .refl rs (.int _)⟩
    · exact w.elim
  · exact w.elim
theorem op_powD : OpR X (binaryOp .Pow) (rOf X.K E powD) := by
  intro pins s σ H x y v u Q I rx ry ⟨ρ, st, d, e, rs, rd, re, w⟩
  unfold powD at w
  split at w
  · rename_i i j
    split at w
    · rename_i hj
      exact op_pow pins s σ H x y v u Q I rx ry ⟨i, j, rd.int, re.int, hj, Pd.kept (Q := fun _ v _ _ H' => Q v H') w .refl rs (.int _)⟩
    · exact w.elim
  · exact w.elim
theorem op_mulD : OpR X (binaryOp .Mult) (rOf X.K E mulD) := by
  intro pins s σ H x y v u Q I rx ry ⟨ρ, st, d, e, rs, rd, re, w⟩
  unfold mulD at w
  split at w
  · rename_i i j
    split at w
    · rename_i hj
      have h1 := rd.int
      have h2 := re.int
      subst h1 h2
      obtain ⟨t, rfl⟩ := rx
      obtain ⟨t', rfl⟩ := ry
      exact mul_int ⟨.int (i * j), H, I.tok _, ⟨_, rfl⟩, Pd.kept (Q := fun _ v _ _ H' => Q v H') w .refl rs (.int _)⟩ hj
    · exact w.elim
  · rename_i xs k
    split at w
    · rename_i hz
      obtain ⟨h1, h2⟩ := Bool.and_eq_true_iff.mp hz
      have h1 := of_decide_eq_true h1
      have h2 : xs.length * k.toNat ≤ sizeLine := of_decide_eq_true h2
      obtain ⟨p, vs, rfl, hn, hp, l⟩ := rd.tmpL
      refine op_rep pins s σ H _ y v u Q I rx ry ⟨p, k, vs, rfl, re.int, hp, h1.1, h1.2, by rw [← l.length]; exact h2, fun q hq => ?_⟩
      exact Pd.tmp (Q := fun _ v _ _ H' => Q v H') w .refl rs hq ⟨_, rfl, (l.flat k.toNat).stay (Grow.new (ρ := ρ) hq).stay⟩
    · exact w.elim
  · exact w.elim
theorem un_negD : UnR X (unaryOp .USub) (rOf1 X.K E negD) := by
  intro pins s σ H x v Q I rx ⟨ρ, st, d, rs, rd, w⟩
  unfold negD at w
  split at w
  · rename_i i
    exact un_neg pins s σ H x v Q I rx ⟨i, rd.int, Pd.kept (Q := fun _ v _ _ H' => Q v H') w .refl rs (.int _)⟩
  · exact w.elim
theorem op_ltD : OpR X (compareOp .Lt) (rOf X.K E ltD) := by
  intro pins s σ H x y v u Q I rx ry ⟨ρ, st, d, e, rs, rd, re, w⟩
  unfold ltD at w
  split at w
  · exact opI0X op_lt (gD := ltD) (fun _ _ _ => rfl) (fun i j => glo_bl X.K _) I rx ry rs rd re w
  · exact w.elim
theorem op_leD : OpR X (compareOp .LtE) (rOf X.K E leD) := by
  intro pins s σ H x y v u Q I rx ry ⟨ρ, st, d, e, rs, rd, re, w⟩
  unfold leD at w
  split at w
  · exact opI0X op_le (gD := leD) (fun _ _ _ => rfl) (fun i j => glo_bl X.K _) I rx ry rs rd re w
  · exact w.elim
theorem op_gtD : OpR X (compareOp .Gt) (rOf X.K E gtD) := by
  intro pins s σ H x y v u Q I rx ry ⟨ρ, st, d, e, rs, rd, re, w⟩
  unfold gtD at w
  split at w
  · exact opI0X op_gt (gD := gtD) (fun _ _ _ => rfl) (fun i j => glo_bl X.K _) I rx ry rs rd re w
  · exact w.elim
theorem op_geD : OpR X (compareOp .GtE) (rOf X.K E geD) := by
  intro pins s σ H x y v u Q I rx ry ⟨ρ, st, d, e, rs, rd, re, w⟩
  unfold geD at w
  split at w
  · exact opI0X op_ge (gD := geD) (fun _ _ _ => rfl) (fun i j => glo_bl X.K _) I rx ry rs rd re w
  · exact w.elim

/-! ### as pure data -/
end
section
variable {K : PySem.W.Frag} {ρ : List Addr} {H : Hp} {st : Sto}
theorem dpAll_of {f : D → Option PyData} (ih : ∀ d v p, f d = some p → Rep K ρ H d v → Dp K H v p) : ∀ {xs : List D} {vs : List V} {ps : List PyData}, optAll f xs = some ps → RepL K ρ H xs vs → DpAll K H vs ps
  | [], _, _, h, .nil => by cases h; exact .nil
  | x :: xs, _, _, h, .cons r rr => by
    unfold optAll at h
    split at h
    · rename_i y ys e1 e2
      cases h
      exact .cons (ih _ _ _ e1 r) (dpAll_of ih e2 rr)
    · cases h
theorem dp_of (rs : RepS K ρ H st) : ∀ (n : Nat) (d : D) (v : V) (p : PyData), toPy st n d = some p → RepH K ρ H d v → Dp K H v p
  | n, .non, v, p, h, r => by cases n <;> (cases h; rw [r.non]; exact .non)
  | n, .bl b, v, p, h, r => by cases n <;> (cases h; rw [r.bl]; exact .bl b)
  | n, .int b, v, p, h, r => by cases n <;> (cases h; rw [r.int]; exact .int b)
  | n, .str b, v, p, h, r => by cases n <;> (cases h; rw [r.str]; exact .str b)
  | 0, .tup _, _, _, h, _ => by cases h
  | 0, .row _, _, _, h, _ => by cases h
  | 0, .frl _, _, _, h, _ => by cases h
  | 0, .ref _, _, _, h, _ => by cases h
  | 0, .tmp _, _, _, h, _ => by cases h
  | n + 1, .row _, _, _, h, _ => by cases h
  | n + 1, .tup xs, v, p, h, r => by
    have h' : (optAll (toPy st n) xs).map PyData.tuple = some p := h
    obtain ⟨ps, e, rfl⟩ := Option.map_eq_some_iff.mp h'
    obtain ⟨a, vs, rfl, t, l⟩ := r.tup
    exact .tup t.sq (dpAll_of (fun d v p e r => dp_of rs n d v p e (.kept r)) e l)
  | n + 1, .frl xs, v, p, h, r => by
    have h' : (optAll (toPy st n) xs).map PyData.list = some p := h
    obtain ⟨ps, e, rfl⟩ := Option.map_eq_some_iff.mp h'
    obtain ⟨a, vs, rfl, t, l⟩ := rs.read r (xs := xs) rfl
    exact .lst t (dpAll_of (fun d v p e r => dp_of rs n d v p e (.kept r)) e l)
  | n + 1, .ref k, v, p, h, r => by
    have h' : (match (st[k]?).map Cell.bare with
      | some (.lst xs) => (optAll (toPy st n) xs).map PyData.list
      | _ => none) = some p := h
    split at h'
    · rename_i xs e0
      obtain ⟨ps, e, rfl⟩ := Option.map_eq_some_iff.mp h'
      obtain ⟨a, vs, rfl, t, l⟩ := rs.read r (xs := xs) e0
      exact .lst t (dpAll_of (fun d v p e r => dp_of rs n d v p e (.kept r)) e l)
    · cases h'
  | n + 1, .tmp c, v, p, h, r => by
    cases c with
    | lst xs =>
      have h' : (optAll (toPy st n) xs).map PyData.list = some p := h
      obtain ⟨ps, e, rfl⟩ := Option.map_eq_some_iff.mp h'
      obtain ⟨a, vs, rfl, t, l⟩ := rs.read r (xs := xs) rfl
      exact .lst t (dpAll_of (fun d v p e r => dp_of rs n d v p e (.kept r)) e l)
    | dct _ => cases h
    | lck _ => cases h
theorem eqPy_of {x y : D} {b : Bool} (h : eqPy st x y = some b) : ∃ p q, toPy st 65 x = some p ∧ toPy st 65 y = some q ∧ SeqAt.shaped p = true ∧ SeqAt.shaped q = true ∧ PyData.eqv p q = b := by
  unfold eqPy at h
  split at h
  · rename_i p q e1 e2
    split at h
    · rename_i hs
      obtain ⟨h1, h2⟩ := Bool.and_eq_true_iff.mp hs
      exact ⟨p, q, e1, e2, h1, h2, Option.some.inj h⟩
    · cases h
  · cases h
end
section
variable {X : Cx} {E : EK}
theorem eqStr_of {x y : D} {b : Bool} (h : eqStr x y = some b) : ∃ z w, x = .str z ∧ y = .str w ∧ b = decide (V.str z = V.str w) := by
  unfold eqStr at h
  split at h
  · cases h
    exact ⟨_, _, rfl, rfl, decide_eq_decide.mpr ⟨fun e => by rw [e], fun e => V.str.inj e⟩⟩
  · cases h
theorem op_eqDX (hu : X.A.units + 64 < cLine) : OpR X (compareOp .Eq) (rOf X.K E Ev.eqD) := by
  intro pins s σ H x y v u Q I rx ry ⟨ρ, st, d, e, rs, rd, re, w⟩
  unfold Ev.eqD at w
  split at w
  · rename_i b hb
    obtain ⟨z, z', rfl, rfl, rfl⟩ := eqStr_of hb
    have e1 := rd.str
    have e2 := re.str
    subst e1 e2
    exact L2.op_eq pins s σ H _ _ v u Q I rx ry ⟨rfl, Pd.kept (Q := fun _ v _ _ H' => Q v H') w .refl rs (.bl _)⟩
  split at w
  · rename_i b hb
    obtain ⟨p, q, e1, e2, s1, s2, rfl⟩ := eqPy_of hb
    exact L2.op_eqD hu pins s σ H x y v u Q I rx ry ⟨p, q, dp_of rs _ _ _ _ e1 rd, dp_of rs _ _ _ _ e2 re, s1, s2, Pd.kept (Q := fun _ v _ _ H' => Q v H') w .refl rs (.bl _)⟩
  · exact w.elim
theorem op_neDX (hu : X.A.units + 64 < cLine) : OpR X (compareOp .NotEq) (rOf X.K E Ev.neD) := by
  intro pins s σ H x y v u Q I rx ry ⟨ρ, st, d, e, rs, rd, re, w⟩
  unfold Ev.neD at w
  split at w
  · rename_i b hb
    obtain ⟨z, z', rfl, rfl, rfl⟩ := eqStr_of hb
    have e1 := rd.str
    have e2 := re.str
    subst e1 e2
    exact L2.op_ne pins s σ H _ _ v u Q I rx ry ⟨rfl, Pd.kept (Q := fun _ v _ _ H' => Q v H') w .refl rs (.bl _)⟩
  split at w
  · rename_i b hb
    obtain ⟨p, q, e1, e2, s1, s2, rfl⟩ := eqPy_of hb
    exact L2.op_neD hu pins s σ H x y v u Q I rx ry ⟨p, q, dp_of rs _ _ _ _ e1 rd, dp_of rs _ _ _ _ e2 re, s1, s2, Pd.kept (Q := fun _ v _ _ H' => Q v H') w .refl rs (.bl _)⟩
  · exact w.elim
end
end Ev
set_option Elab.async false
set_option linter.all false
set_option maxRecDepth 100000
set_option maxHeartbeats 4000000
/-! Ev, part 6: in, is, subscripts, slices. -/
namespace Ev
open PySem PySem.Spec PyProof.Rows L2
section
variable {X : Cx} {E : EK} {a b e : Expr} {fa fb fe : Ex} {pos p2 : Pos}

/-! ### in -/
theorem anyPy_all {st : Sto} {x : D} : ∀ {xs : List D} {b : Bool}, anyPy st x xs = some b → ∃ bs : List Bool, bs.length = xs.length ∧ b = bs.any id ∧ ∀ (i : Nat) (y : D), xs[i]? = some y → ∃ k : Bool, bs[i]? = some k ∧ eqPy st y x = some k
  | [], b, h => by cases h; exact ⟨[], rfl, rfl, fun i y e => by simp at e⟩
  | y :: ys, b, h => by
    unfold anyPy at h
    split at h
    · rename_i p q e1 e2
      cases h
      obtain ⟨bs, h1, h2, h3⟩ := anyPy_all e2
      refine ⟨p :: bs, by simp [h1], by rw [h2]; rfl, fun i z e => ?_⟩
      cases i with
      | zero => simp at e; subst e; exact ⟨p, rfl, e1⟩
      | succ i => simpa using h3 i z (by simpa using e)
    · cases h
/-- what the layer's searches want of the items: the equality of each with x -/
theorem in_facts {pins : List (Addr × Obj)} {s : Shared} {σ : L2.St} {H : Hp} {x : V} {v : Value} {ρ : List Addr} {st : Sto} {d : D} {xs : List D} {vs : List V} {its : List Value} {k : Bool} (I : Inv X pins σ H s) (hu : X.A.units + 65 < cLine) (rs : RepS X.K ρ H st) (rx : RelV x v) (rd : RepH X.K ρ H d x)
    (l : RepL X.K ρ H xs vs) (r : Vals vs its) (h : anyPy st d xs = some k) : ∃ F : Value → Bool, (∀ w ∈ its, SeqAt.EqAt X.A.in1 s w v (F w)) ∧ its.any F = k := by
  obtain ⟨bs, h1, h2, h3⟩ := anyPy_all h
  have key : ∀ (i : Nat) (u : Value), its[i]? = some u → ∃ c : Bool, bs[i]? = some c ∧ SeqAt.EqAt X.A.in1 s u v c := fun i u e => by
    have hi : i < xs.length := by
      rw [l.length, r.length]
      exact (List.getElem?_eq_some_iff.mp e).1
    obtain ⟨c, e1, e2⟩ := h3 i xs[i] (List.getElem?_eq_getElem hi)
    obtain ⟨y, e3, ry⟩ := l.get (List.getElem?_eq_getElem hi)
    obtain ⟨u', e4, ru⟩ := r.get e3
    rw [e] at e4
    cases e4
    obtain ⟨p, q, t1, t2, s1, s2, rfl⟩ := eqPy_of e2
    obtain ⟨as, r1⟩ := Dp.reads I p y u (dp_of rs _ _ _ _ t1 (.kept ry)) ru
    obtain ⟨cs, r2⟩ := Dp.reads I q x v (dp_of rs _ _ _ _ t2 rd) rx
    exact ⟨_, e1, SeqAt.eqAt_reads p q X.A.in1 s u v as cs r1 r2 (SeqAt.canLay_of_shaped s1) (SeqAt.canLay_of_shaped s2) (SeqAt.room_of_shaped s1 (by show X.A.units + 1 + 64 < cLine; omega))⟩
  -- one function of the value: the equality that the first place of it has
  classical
  refine ⟨fun u => if h : ∃ i : Nat, its[i]? = some u ∧ bs[i]? = some true then true else false, fun w hw => ?_, ?_⟩
  · obtain ⟨i, hi, e⟩ := List.getElem_of_mem hw
    obtain ⟨c, e1, q⟩ := key i w (by rw [List.getElem?_eq_getElem hi, e])
    by_cases hh : ∃ j : Nat, its[j]? = some w ∧ bs[j]? = some true
    · obtain ⟨j, j1, j2⟩ := hh
      obtain ⟨c', e2, q'⟩ := key j w j1
      rw [j2] at e2
      cases e2
      simp only [show (∃ i : Nat, its[i]? = some w ∧ bs[i]? = some true) from ⟨j, j1, j2⟩, dite_true]
      exact q'
    · have : c = false := by
        cases c with
        | false => rfl
        | true => exact absurd ⟨i, by rw [List.getElem?_eq_getElem hi, e], e1⟩ hh
      subst this
      simp only [hh, dite_false]
      exact q
  · rw [h2]
    have hl : its.length = bs.length := by rw [h1, l.length, r.length]
    cases hb : bs.any id with
    | true =>
      obtain ⟨c, hc, ht⟩ := List.any_eq_true.mp hb
      obtain ⟨i, hi, e⟩ := List.getElem_of_mem hc
      have ht' : c = true := ht
      refine List.any_eq_true.mpr ⟨its[i]'(by omega), List.getElem_mem _, ?_⟩
      have : ∃ j : Nat, its[j]? = some (its[i]'(by omega)) ∧ bs[j]? = some true := ⟨i, List.getElem?_eq_getElem (by omega), by rw [List.getElem?_eq_getElem hi, e, ht']⟩
      simp only [this, dite_true]
    | false =>
      refine List.any_eq_false.mpr fun u hu' => ?_
      intro z
      by_cases hh : ∃ j : Nat, its[j]? = some u ∧ bs[j]? = some true
      · obtain ⟨j, j1, j2⟩ := hh
        have : bs.any id = true := List.any_eq_true.mpr ⟨true, List.mem_of_getElem? j2, rfl⟩
        rw [hb] at this
        cases this
      · simp only [hh, dite_false] at z
        cases z
theorem op_inD (hu : X.A.units + 65 < cLine) : OpR X (compareOp .In) (rOf X.K E inD) := by
  intro pins s σ H x y v u Q I rx ry ⟨ρ, st, d, e, rs, rd, re, w⟩
  unfold inD at w
  split at w
  · rename_i k hk
    unfold inPy at hk
    split at hk
    · rename_i ys hy
      obtain ⟨p, vs, rfl, hq, l⟩ := rs.seq re hy
      cases ry
      rcases hq with hq | hq
      · obtain ⟨its, r, pl, hz⟩ := I.list hq
        obtain ⟨F, f1, f2⟩ := in_facts I hu rs rx rd l r hk
        refine SeqAt.in_listAt F pl.isList (fun w hw => f1 w (by simpa using hw)) ⟨.bl _, H, I, rfl, ?_⟩
        rw [show its.toArray.any F = its.any F by simp, f2]
        exact Pd.kept (Q := fun _ v _ _ H' => Q v H') w .refl rs (.bl _)
      · obtain ⟨its, r, pl, hz⟩ := I.tuple hq.sq
        obtain ⟨F, f1, f2⟩ := in_facts I hu rs rx rd l r hk
        refine SeqAt.in_tupleAt F pl (fun w hw => f1 w (by simpa using hw)) ⟨.bl _, H, I, rfl, ?_⟩
        rw [show its.toArray.any F = its.any F by simp, f2]
        exact Pd.kept (Q := fun _ v _ _ H' => Q v H') w .refl rs (.bl _)
    · cases hk
  · exact w.elim
theorem op_notInD (hu : X.A.units + 65 < cLine) : OpR X (compareOp .NotIn) (rOf X.K E notInD) := by
  intro pins s σ H x y v u Q I rx ry ⟨ρ, st, d, e, rs, rd, re, w⟩
  unfold notInD at w
  split at w
  · rename_i k hk
    unfold inPy at hk
    split at hk
    · rename_i ys hy
      obtain ⟨p, vs, rfl, hq, l⟩ := rs.seq re hy
      cases ry
      rcases hq with hq | hq
      · obtain ⟨its, r, pl, hz⟩ := I.list hq
        obtain ⟨F, f1, f2⟩ := in_facts I hu rs rx rd l r hk
        refine SeqAt.notIn_listAt F pl.isList (fun w hw => f1 w (by simpa using hw)) ⟨.bl _, H, I, rfl, ?_⟩
        rw [show its.toArray.any F = its.any F by simp, f2]
        exact Pd.kept (Q := fun _ v _ _ H' => Q v H') w .refl rs (.bl _)
      · obtain ⟨its, r, pl, hz⟩ := I.tuple hq.sq
        obtain ⟨F, f1, f2⟩ := in_facts I hu rs rx rd l r hk
        refine SeqAt.notIn_tupleAt F pl (fun w hw => f1 w (by simpa using hw)) ⟨.bl _, H, I, rfl, ?_⟩
        rw [show its.toArray.any F = its.any F by simp, f2]
        exact Pd.kept (Q := fun _ v _ _ H' => Q v H') w .refl rs (.bl _)
    · cases hk
  · exact w.elim

/-! ### is None -/
theorem isNon_of {K : PySem.W.Frag} {ρ : List Addr} {H : Hp} {d : D} {v : V} (h : RepH K ρ H d v) : decide (v = .non) = isNonB d := by
  cases h with
  | kept h => cases h <;> first | rfl | exact decide_eq_false (by intro z; cases z)
  | tmp _ _ _ => exact decide_eq_false (by intro z; cases z)
theorem de_isN {j : Nat} {pos' : Pos} (ha : DE X E a fa) : DE X E (.Compare a [.Is] [.Constant .none j pos'] pos) (un1 isND fa) :=
  pe_imp (pe_cmp (pc_isN ha) rfl) fun σ H Q ⟨ρ, fr, st, rf, rs, w⟩ => tOf.bnd rf rs w fun x v st1 ρ1 H1 g1 s1 rf1 rh f1 w1 => by
    rw [isNon_of rh]
    exact Pd.kept (Q := fun _ v _ _ H' => Q v H') w1 g1 s1 (.bl _)
theorem de_notN {j : Nat} {pos' : Pos} (ha : DE X E a fa) : DE X E (.Compare a [.IsNot] [.Constant .none j pos'] pos) (un1 notND fa) :=
  pe_imp (pe_cmp (pc_notN ha) rfl) fun σ H Q ⟨ρ, fr, st, rf, rs, w⟩ => tOf.bnd rf rs w fun x v st1 ρ1 H1 g1 s1 rf1 rh f1 w1 => by
    rw [isNon_of rh]
    exact Pd.kept (Q := fun _ v _ _ H' => Q v H') w1 g1 s1 (.bl _)

/-! ### subscripts -/
theorem atI_len {α β : Type} {xs : List α} {ys : List β} (hl : xs.length = ys.length) {i : Int} {x : α} (h : atI xs i = some x) : ∃ j : Nat, xs[j]? = some x ∧ ∀ y : β, ys[j]? = some y → atI ys i = some y := by
  unfold atI at h
  obtain ⟨j, h1, h2⟩ := Option.bind_eq_some_iff.mp h
  refine ⟨j, h2, fun y hy => ?_⟩
  unfold atI
  rw [← hl, h1]
  exact hy
theorem ix_ixD : IxR X (rOf X.K E ixD) := by
  intro value slice pins s σ H x y v u Q I rx ry ⟨ρ, st, d, e, rs, rd, re, w⟩ hs
  unfold ixD at w
  split at w
  · rename_i k
    have hy := re.int
    split at w
    · rename_i z
      split at w
      · rename_i hz
        split at w
        · rename_i c hc
          exact ix_str value slice pins s σ H x y v u Q I rx ry ⟨z, k, c, rd.str, hy, of_decide_eq_true hz, hc, Pd.kept (Q := fun _ v _ _ H' => Q v H') w .refl rs (.str _)⟩ hs
        · exact w.elim
      · exact w.elim
    · split at w
      · rename_i xs hx
        split at w
        · rename_i d' hd
          obtain ⟨a, vs, rfl, hq, l⟩ := rs.seq rd hx
          obtain ⟨j, e1, e2⟩ := atI_len (ys := vs) l.length hd
          obtain ⟨z, e3, rz⟩ := l.get e1
          have fin := Pd.kept (Q := fun _ v _ _ H' => Q v H') w .refl rs rz
          rcases hq with hq | hq
          · exact ix_list value slice pins s σ H _ y v u Q I rx ry ⟨a, vs, k, z, rfl, hy, hq, e2 z e3, fin⟩ hs
          · exact ix_tup value slice pins s σ H _ y v u Q I rx ry ⟨a, vs, k, z, rfl, hy, hq.sq, e2 z e3, fin⟩ hs
        · exact w.elim
      · exact w.elim
  · exact w.elim
theorem de_ix (ha : DE X E a fa) (hb : DE X E b fb) (hs : PlainIx b) : DE X E (.Subscript a b pos) (bin2 ixD fa fb) :=
  pe_imp (pe_ix ix_ixD ha hb hs) fun σ H Q h => tOp_of h

/-! ### slices -/
def tPartOf (K : PySem.W.Frag) (E : EK) (f : Fr → M (Option Int)) : TO := fun σ H Q => ∃ ρ fr st, RepF K ρ H fr σ ∧ RepS K ρ H st ∧ Wp K E (f fr st) ρ H fun o _ _ H' => Q o H'
abbrev DPart (X : Cx) (E : EK) (e : Option Expr) (f : Option Ex) : Prop := PO X e (tPartOf X.K E (partE f))
theorem po_imp {e : Option Expr} {t t' : TO} (h : PO X e t) (k : ∀ σ H Q, t' σ H Q → t σ H Q) : PO X e t' := ⟨fun pins s σ H Q I w => h.run pins s σ H Q I (k σ H Q w)⟩
theorem dp_none : DPart X E none none := po_imp po_none fun σ H Q ⟨ρ, fr, st, rf, rs, w⟩ => w ρ H .refl rs
theorem dp_some (h : DE X E e fe) : DPart X E (some e) (some fe) := po_imp (po_some h) fun σ H Q ⟨ρ, fr, st, rf, rs, w⟩ => tOf.bnd rf rs w fun x v st1 ρ1 H1 g1 s1 rf1 rh f1 w1 => by
  cases x with
  | int i => exact ⟨i, rh.int, w1 ρ1 H1 g1 s1⟩
  | _ => exact w1.elim
theorem tPart.bnd {K : PySem.W.Frag} {E : EK} {ρ : List Addr} {H : Hp} {fr : Fr} {σ : L2.St} {st : Sto} {f : Fr → M (Option Int)} {β : Type} {g : Option Int → M β} {P : β → Sto → List Addr → Hp → Prop} {Q : Option Int → Hp → Prop}
    (rf : RepF K ρ H fr σ) (rs : RepS K ρ H st) (w : Wp K E ((f fr st).bnd g) ρ H P)
    (k : ∀ b st1 ρ1 H1, Grow ρ ρ1 H H1 → RepS K ρ1 H1 st1 → RepF K ρ1 H1 fr σ → Wp K E (g b st1) ρ H P → Q b H1) : tPartOf K E f σ H Q :=
  ⟨ρ, fr, st, rf, rs, w.bnd.mono fun d st1 ρ1 H1 g1 s1 w1 => k d st1 ρ1 H1 g1 s1 (rf.stay g1.stay) w1⟩
def rSlOf (K : PySem.W.Frag) (E : EK) : V → Option Int → Option Int → Hp → VK → Prop := fun x lo hi H Q => ∃ ρ st d, RepS K ρ H st ∧ RepH K ρ H d x ∧ Wp K E (sliceD d lo hi st) ρ H (Pd K H fun _ v _ _ H' => Q v H')
theorem cut_V (xs : List V) (lo hi : Option Int) : cut xs lo hi = cutV xs lo hi := rfl
theorem RepL.cut {K : PySem.W.Frag} {ρ : List Addr} {H : Hp} {ds : List D} {vs : List V} (h : RepL K ρ H ds vs) (lo hi : Option Int) : RepL K ρ H (Ev.cut ds lo hi) (cutV vs lo hi) := by
  unfold Ev.cut cutV
  rw [h.length]
  exact (h.drop _).take _
theorem sl_sliceD : SlR X (rSlOf X.K E) := by
  intro pins s σ H x v vl vu lo hi sl Q I rx hs pl pu ⟨ρ, st, d, rs, rd, w⟩
  unfold sliceD at w
  split at w
  · rename_i xs
    obtain ⟨a, vs, rfl, t, l⟩ := rd.tup
    cases rx
    obtain ⟨its, r, ht, hz⟩ := I.tuple t.sq
    have hlen : its.toArray.size = vs.length := by rw [List.size_toArray]; exact r.length.symm
    refine ⟨"tuple", _, PyProof.Rows.slot_tuple_getitem.lookup, ht.typeIs, ?_⟩
    by_cases hw : HT.sIx vs.length 0 lo = 0 ∧ HT.sIx vs.length vs.length hi = vs.length
    · refine EvT.getItem_tuple_whole ht hs pl pu (by rw [hlen]; exact hw) ⟨.ref a, H, I, rfl, ?_⟩
      refine Pd.kept (Q := fun _ v _ _ H' => Q v H') w .refl rs (.tup t ?_)
      unfold Ev.cut
      rw [l.length, hw.1, hw.2, List.drop_zero, Nat.sub_zero, ← l.length, List.take_length]
      exact l
    · refine HT.getItem_tuple_cut ht hs pl pu (by rw [hlen]; exact hw) ?_ (by rw [hlen]; exact hz)
      rw [hlen]
      have hf : H s.heap.objs.size = none := I.hok.fresh (Nat.le_refl _)
      refine ⟨.ref s.heap.objs.size, _, I.laid (t' := s.toks) (o := .frz { cls := .type "tuple", data := .seq ((its.drop (HT.sIx vs.length 0 lo)).take (HT.sIx vs.length vs.length hi - HT.sIx vs.length 0 lo)).toArray } (.tup (cutV vs lo hi))) (fun b ob q => Heap.get?_push_of_some _ q) (Nat.le_refl _) ?_, rfl,
        Pd.tup (Q := fun _ v _ _ H' => Q v H') w .refl rs hf rfl rfl (l.cut lo hi)⟩
      exact ⟨Heap.get?_push_size _ rfl, Nat.le_trans (cutV_length vs lo hi) hz, _, (r.drop (HT.sIx vs.length 0 lo)).take (HT.sIx vs.length vs.length hi - HT.sIx vs.length 0 lo), IsTup.new _ _⟩
  · split at w
    · rename_i xs hx
      obtain ⟨a, vs, rfl, hq, l⟩ := rs.read rd hx
      exact sl_list pins s σ H _ v vl vu lo hi sl Q I rx hs pl pu ⟨a, vs, rfl, hq, fun p hp => Pd.tmp (Q := fun _ v _ _ H' => Q v H') w .refl rs hp ⟨_, rfl, (l.cut lo hi).stay (Grow.new (ρ := ρ) hp).stay⟩⟩
    · exact w.elim
theorem de_slice {lo hi : Option Expr} {fl fh : Option Ex} (he : DE X E e fe) (hl : DPart X E lo fl) (hh : DPart X E hi fh) : DE X E (.Subscript e (.Slice lo hi none p2) pos) (sliceE fe fl fh) :=
  pe_imp (pe_slice sl_sliceD he hl hh) fun σ H Q ⟨ρ, fr, st, rf, rs, w⟩ => tOf.bnd rf rs w fun x v st1 ρ1 H1 g1 s1 rf1 rh f1 w1 =>
    tPart.bnd rf1 s1 (w1.re g1) fun l st2 ρ2 H2 g2 s2 rf2 w2 => tPart.bnd rf2 s2 (w2.re g2) fun h st3 ρ3 H3 g3 s3 rf3 w3 => ⟨ρ3, st3, x, s3, (rh.grow g2).grow g3, w3.re g3⟩
end
end Ev
set_option Elab.async false
set_option linter.all false
set_option maxRecDepth 100000
set_option maxHeartbeats 4000000
/-! Ev, part 7: calls: built-ins, methods of built-in types, defs. -/
namespace Ev
open PySem PySem.Spec PyProof.Rows L2
section
variable {X : Cx} {E : EK} {a b e o : Expr} {fa fb fe fo : Ex} {pos p2 p p3 : Pos} {x : Str}
/-- the side conditions of an argument list: no star -/
def NoStar (es : List Expr) (env : Env) : Prop := ∀ (pre : List Expr) (e : Expr) (post : List Expr), es = pre ++ e :: post → starEach (e :: post) env = (false, eval e env) :: starEach post env

def cOf1 (K : PySem.W.Frag) (E : EK) (f : D → M D) : List V → Hp → VK → Prop := fun xs H Q => ∃ x, xs = [x] ∧ rOf1 K E f x H Q
def cOf2 (K : PySem.W.Frag) (E : EK) (f : D → D → M D) : List V → Hp → VK → Prop := fun xs H Q => ∃ x y, xs = [x, y] ∧ rOf K E f x y H Q
theorem de_callB1 {id : String} {f : D → M D} (hc : CallR X (.builtin id) (cOf1 X.K E f)) (hg : Gl X x) (hm : X.mg x = none) (hv : bootBuiltins x = some (.builtin id)) (ha : DE X E a fa) (hs : starEach [a] X.env = [(false, eval a X.env)]) (hn : x ≠ "__name__" := by decide) (hdb : (x == ("__debug__" : Str)) = false := by decide) :
    DE X E (.Call (.Name x p) [a] [] pos) (un1 f fa) :=
  pe_imp (pe_callB hc hg hm hv (pa_cons ha pa_nil hs) hn hdb hs rfl) fun σ H Q ⟨ρ, fr, st, rf, rs, w⟩ => tOf.bnd rf rs w fun x v st1 ρ1 H1 g1 s1 rf1 rh f1 w1 => ⟨v, rfl, ρ1, st1, x, s1, rh, w1.re g1⟩
theorem de_callT1 {T : String} {f : D → M D} (hc : CallR X (.type T) (cOf1 X.K E f)) (hg : Gl X x) (hm : X.mg x = none) (hv : bootBuiltins x = some (.type T)) (ha : DE X E a fa) (hs : starEach [a] X.env = [(false, eval a X.env)]) (hn : x ≠ "__name__" := by decide) (hdb : (x == ("__debug__" : Str)) = false := by decide) :
    DE X E (.Call (.Name x p) [a] [] pos) (un1 f fa) :=
  pe_imp (pe_callTy hc hg hm hv (pa_cons ha pa_nil hs) hn hdb hs rfl) fun σ H Q ⟨ρ, fr, st, rf, rs, w⟩ => tOf.bnd rf rs w fun x v st1 ρ1 H1 g1 s1 rf1 rh f1 w1 => ⟨v, rfl, ρ1, st1, x, s1, rh, w1.re g1⟩
theorem de_callB2 {id : String} {f : D → D → M D} (hc : CallR X (.builtin id) (cOf2 X.K E f)) (hg : Gl X x) (hm : X.mg x = none) (hv : bootBuiltins x = some (.builtin id)) (ha : DE X E a fa) (hb : DE X E b fb)
    (hs : starEach [a, b] X.env = [(false, eval a X.env), (false, eval b X.env)]) (hs2 : starEach [b] X.env = [(false, eval b X.env)]) (hn : x ≠ "__name__" := by decide) (hdb : (x == ("__debug__" : Str)) = false := by decide) :
    DE X E (.Call (.Name x p) [a, b] [] pos) (bin2 f fa fb) :=
  pe_imp (pe_callB hc hg hm hv (pa_cons ha (pa_cons hb pa_nil hs2) (by rw [hs, hs2])) hn hdb (by rw [hs, hs2]) (by rw [hs2]; rfl)) fun σ H Q ⟨ρ, fr, st, rf, rs, w⟩ =>
    tOf.bnd rf rs w fun x v st1 ρ1 H1 g1 s1 rf1 rh f1 w1 => tOf.bnd rf1 s1 (w1.re g1) fun y u st2 ρ2 H2 g2 s2 rf2 rh2 f2 w2 => ⟨v, u, rfl, ρ2, st2, x, y, s2, rh.grow g2, rh2, w2.re g2⟩

/-! ### by values -/
theorem call_lenD : CallR X (.builtin "len") (cOf1 X.K E lenD) := by
  intro pins s σ H xs us Q I r h
  obtain ⟨x, rfl, ρ, st, d, rs, rd, w⟩ := h
  unfold lenD at w
  split at w
  · rename_i z
    split at w
    · rename_i hz
      exact call_len_str pins s σ H _ us Q I r ⟨z, by rw [rd.str], of_decide_eq_true hz, Pd.kept (Q := fun _ v _ _ H' => Q v H') w .refl rs (.int _)⟩
    · exact w.elim
  · obtain ⟨a, vs, rfl, t, l⟩ := rd.tup
    exact call_len_seq pins s σ H _ us Q I r ⟨a, vs, rfl, .inr t.sq, by rw [← l.length]; exact Pd.kept (Q := fun _ v _ _ H' => Q v H') w .refl rs (.int _)⟩
  · split at w
    · rename_i ys hy
      obtain ⟨a, vs, rfl, t, l⟩ := rs.read rd hy
      exact call_len_seq pins s σ H _ us Q I r ⟨a, vs, rfl, .inl t, by rw [← l.length]; exact Pd.kept (Q := fun _ v _ _ H' => Q v H') w .refl rs (.int _)⟩
    · rename_i kvs hy
      obtain ⟨a, ps, rfl, t, l⟩ := rs.readD rd hy
      obtain ⟨u, rfl, rx⟩ := vals1 r
      cases rx
      refine d_len I t fun tk s' I' => ⟨.int ps.length, H, I', ⟨tk, rfl⟩, ?_⟩
      rw [← l.length]
      exact Pd.kept (Q := fun _ v _ _ H' => Q v H') w .refl rs (.int _)
    · exact w.elim
theorem call_allD (hc : X.calm = true) : CallR X (.builtin "all") (cOf1 X.K E allD) := by
  intro pins s σ H xs us Q I r h
  obtain ⟨x, rfl, ρ, st, d, rs, rd, w⟩ := h
  unfold allD at w
  split at w
  · rename_i ys hy
    split at w
    · rename_i bs hb
      obtain ⟨a, vs, rfl, t, l⟩ := rs.read rd hy
      have e : vs = bs.map V.bl := by
        clear w hy t r I
        induction ys generalizing vs bs with
        | nil => cases hb; cases l; rfl
        | cons y ys ih =>
          cases y with
          | bl b =>
            have hb' : (bools ys).map (b :: ·) = some bs := hb
            obtain ⟨cs, e1, rfl⟩ := Option.map_eq_some_iff.mp hb'
            cases l with
            | cons r1 r2 => cases r1; rw [ih cs e1 _ r2]; rfl
          | _ => cases hb
      subst e
      exact cr_all hc pins s σ H _ us Q I r ⟨a, bs, rfl, t, Pd.kept (Q := fun _ v _ _ H' => Q v H') w .refl rs (.bl _)⟩
    · exact w.elim
  · exact w.elim
theorem call_anyD (hc : X.calm = true) : CallR X (.builtin "any") (cOf1 X.K E anyD) := by
  intro pins s σ H xs us Q I r h
  obtain ⟨x, rfl, ρ, st, d, rs, rd, w⟩ := h
  unfold anyD at w
  split at w
  · rename_i ys hy
    split at w
    · rename_i bs hb
      obtain ⟨a, vs, rfl, t, l⟩ := rs.read rd hy
      have e : vs = bs.map V.bl := by
        clear w hy t r I
        induction ys generalizing vs bs with
        | nil => cases hb; cases l; rfl
        | cons y ys ih =>
          cases y with
          | bl b =>
            have hb' : (bools ys).map (b :: ·) = some bs := hb
            obtain ⟨cs, e1, rfl⟩ := Option.map_eq_some_iff.mp hb'
            cases l with
            | cons r1 r2 => cases r1; rw [ih cs e1 _ r2]; rfl
          | _ => cases hb
      subst e
      exact cr_any hc pins s σ H _ us Q I r ⟨a, bs, rfl, t, Pd.kept (Q := fun _ v _ _ H' => Q v H') w .refl rs (.bl _)⟩
    · exact w.elim
  · exact w.elim
/-- tuple(list), the new one told whole -/
theorem call_tupleX {pins : List (Addr × Obj)} {s : Shared} {σ : L2.St} {H : Hp} {a : Addr} {ys : List V} {Q : VK} (I : Inv X pins σ H s) (hq : SqL X.K H a ys)
    (q : ∀ (p : Addr) (o : Obj), H p = none → o.dict = none → o.cls = .type "tuple" → Q (.ref p) (upd H p (.frz o (.tup ys)))) : wpAny (model X.prog X.w) X.A (call (.type "tuple") [.ref a]) (EP X pins σ Q) X.xe s := by
  obtain ⟨its, r', pl, hz⟩ := I.list hq
  have hlen := r'.length
  refine call_tuple_list pl.isList (fun h' kp => ?_) (by simp only [List.size_toArray] <;> omega)
  have I1 : Inv X pins σ H { s with heap := h' } := I.kept (t' := s.toks) kp
  have hf : H h'.objs.size = none := I1.hok.fresh (Nat.le_refl _)
  have I2 : Inv X pins σ (upd H h'.objs.size (.frz { cls := .type "tuple", data := .seq its.toArray } (.tup ys))) { s with heap := h'.push { cls := .type "tuple", data := .seq its.toArray } } :=
    I1.laid (t' := s.toks) (fun b o e => Heap.get?_push_of_some _ e) (Nat.le_refl _) (show ObjOk X.prog X.w _ _ _ (.frz _ (.tup ys)) from ⟨Heap.get?_push_size _ rfl, hz, its, r', IsTup.new _ _⟩)
  exact ⟨.ref h'.objs.size, _, I2, rfl, q _ _ hf rfl rfl⟩
theorem call_tupleD : CallR X (.type "tuple") (cOf1 X.K E tupleD) := by
  intro pins s σ H xs us Q I r h
  obtain ⟨x, rfl, ρ, st, d, rs, rd, w⟩ := h
  unfold tupleD at w
  split at w
  · rename_i ys hy
    cases d with
    | tup zs =>
      cases hy
      obtain ⟨a, vs, rfl, t, l⟩ := rd.tup
      exact call_tupleT pins s σ H _ us Q I r ⟨a, vs, rfl, t.sq, Pd.kept (Q := fun _ v _ _ H' => Q v H') w .refl rs (.tup t l)⟩
    | _ =>
      all_goals
        simp only [seqAt] at hy
        split at hy
        · rename_i hy'
          cases hy
          obtain ⟨a, vs, rfl, t, l⟩ := rs.read rd hy'
          obtain ⟨u, rfl, rx⟩ := vals1 r
          cases rx
          exact call_tupleX I t fun p o hp hd hc => Pd.tup (Q := fun _ v _ _ H' => Q v H') w .refl rs hp hd hc l
        · cases hy
  · exact w.elim
theorem call_listD : CallR X (.type "list") (cOf1 X.K E listD) := by
  intro pins s σ H xs us Q I r h
  obtain ⟨x, rfl, ρ, st, d, rs, rd, w⟩ := h
  unfold listD at w
  split at w
  · rename_i ys hy
    obtain ⟨a, vs, rfl, t, l⟩ := rs.seq rd hy
    exact call_list_of pins s σ H _ us Q I r ⟨a, vs, rfl, t.elim .inl fun t => .inr t.sq, fun q hq => Pd.tmp (Q := fun _ v _ _ H' => Q v H') w .refl rs hq ⟨_, rfl, l.stay (Grow.new (ρ := ρ) hq).stay⟩⟩
  · exact w.elim
theorem call_intD : CallR X (.type "int") (cOf1 X.K E intD) := by
  intro pins s σ H xs us Q I r h
  obtain ⟨x, rfl, ρ, st, d, rs, rd, w⟩ := h
  unfold intD at w
  split at w
  · rename_i i
    exact call_int1 pins s σ H _ us Q I r (.inl ⟨i, by rw [rd.int], Pd.kept (Q := fun _ v _ _ H' => Q v H') w .refl rs (.int _)⟩)
  · rename_i i
    exact call_int1 pins s σ H _ us Q I r (.inr ⟨i, by rw [rd.bl], Pd.kept (Q := fun _ v _ _ H' => Q v H') w .refl rs (.int _)⟩)
  · exact w.elim
theorem call_absD : CallR X (.builtin "abs") (cOf1 X.K E absD) := by
  intro pins s σ H xs us Q I r h
  obtain ⟨x, rfl, ρ, st, d, rs, rd, w⟩ := h
  unfold absD at w
  split at w
  · rename_i i
    exact call_abs pins s σ H _ us Q I r ⟨i, by rw [rd.int], Pd.kept (Q := fun _ v _ _ H' => Q v H') w .refl rs (.int _)⟩
  · exact w.elim
theorem call_maxD (hc : X.calm = true) : CallR X (.builtin "max") (cOf2 X.K E maxD) := by
  intro pins s σ H xs us Q I r h
  obtain ⟨x, y, rfl, ρ, st, d, e, rs, rd, re, w⟩ := h
  unfold maxD at w
  split at w
  · rename_i i j
    exact call_max2 hc pins s σ H _ us Q I r ⟨i, j, by rw [rd.int, re.int], Pd.kept (Q := fun _ v _ _ H' => Q v H') w .refl rs (.int _)⟩
  · exact w.elim
theorem call_minD (hc : X.calm = true) : CallR X (.builtin "min") (cOf2 X.K E minD) := by
  intro pins s σ H xs us Q I r h
  obtain ⟨x, y, rfl, ρ, st, d, e, rs, rd, re, w⟩ := h
  unfold minD at w
  split at w
  · rename_i i j
    exact call_min2 hc pins s σ H _ us Q I r ⟨i, j, by rw [rd.int, re.int], Pd.kept (Q := fun _ v _ _ H' => Q v H') w .refl rs (.int _)⟩
  · exact w.elim

/-! ### repr -/
mutual
theorem dp_noDict {K : PySem.W.Frag} {H : Hp} : ∀ {v : V} {d : PyData}, Dp K H v d → d.hasDict = false
  | _, _, .non => by simp only [PyData.hasDict]
  | _, _, .bl _ => by simp only [PyData.hasDict]
  | _, _, .int _ => by simp only [PyData.hasDict]
  | _, _, .str _ => by simp only [PyData.hasDict]
  | _, _, .lst _ l => by simp only [PyData.hasDict]; exact dpAll_noDict l
  | _, _, .tup _ l => by simp only [PyData.hasDict]; exact dpAll_noDict l
theorem dpAll_noDict {K : PySem.W.Frag} {H : Hp} : ∀ {vs : List V} {ds : List PyData}, DpAll K H vs ds → PyData.hasDictAll ds = false
  | _, _, .nil => by simp only [PyData.hasDictAll]
  | _, _, .cons h l => by simp only [PyData.hasDictAll, dp_noDict h, dpAll_noDict l, Bool.or_self]
end
theorem call_reprD (hu : X.A.units + 70 < cLine) (hg : X.A.guards = some []) : CallR X (.builtin "repr") (cOf1 X.K E reprD) := by
  intro pins s σ H xs us Q I r h
  obtain ⟨x, rfl, ρ, st, d, rs, rd, w⟩ := h
  unfold reprD at w
  split at w
  · rename_i q hq
    split at w
    · rename_i hs
      obtain ⟨h1, h2⟩ := Bool.and_eq_true_iff.mp hs
      obtain ⟨h3, h4⟩ := Bool.and_eq_true_iff.mp h1
      have h2 := of_decide_eq_true h2
      have h4 : q.shown.length ≤ sizeLine := of_decide_eq_true h4
      have dq := dp_of rs _ _ _ _ hq rd
      obtain ⟨u, rfl, rx⟩ := vals1 r
      obtain ⟨as, hr⟩ := Dp.reads I q x u dq rx
      have fin : ∀ h' t tk, (∀ b o, s.heap.get? b = some o → h'.get? b = some o) → EP X pins σ Q (.str q.shown t) { s with heap := h', toks := tk } := fun h' t tk k =>
        ⟨.str q.shown, H, I.kept (t' := tk) k, ⟨t, rfl⟩, Pd.kept (Q := fun _ v _ _ H' => Q v H') w .refl rs (.str _)⟩
      have nd : q.hasDict = false := dp_noDict dq
      cases dq with
      | non => cases rx; exact PySem.P.repr_of_none (fin _ _ _ fun _ _ e => e)
      | bl b => cases rx; exact PySem.P.repr_of_bool (fin _ _ _ fun _ _ e => e)
      | int i =>
        obtain ⟨t, rfl⟩ := rx
        exact PySem.P.repr_of_int (of_decide_eq_true h3) (fin _ _ _ fun _ _ e => e)
      | str z =>
        obtain ⟨t, rfl⟩ := rx
        exact PySem.P.repr_of_str (fin _ _ _ fun _ _ e => e) h4
      | lst t l =>
        cases rx
        exact repr_of_reads' hr h3 (PyData.noDict_hsm nd) hg (by omega) (fun _ _ e => e) fin h4
      | tup t l =>
        cases rx
        exact repr_of_reads' hr h3 (PyData.noDict_hsm nd) hg (by omega) (fun _ _ e => e) fin h4
    · exact w.elim
  · exact w.elim
end
end Ev
set_option Elab.async false
set_option linter.all false
set_option maxRecDepth 100000
set_option maxHeartbeats 4000000
/-! Ev, part 8: isinstance, methods of built-in types, stores. -/
namespace Ev
open PySem PySem.Spec PyProof.Rows L2
section
variable {K : PySem.W.Frag} {E : EK} {ρ ρ1 : List Addr} {H H1 : Hp} {st : Sto}
/-- a tracked list is written -/
theorem Grow.put {a : Addr} {xs : List V} {u : HO} (ha : a ∈ ρ) (h : H a = some (.lst xs)) : Grow ρ ρ H (upd H a u) := by
  refine ⟨⟨[], by simp, by simp⟩, fun b o e n => ?_, fun b ys e => ?_, fun b o w e => ?_, fun b o e => ?_⟩
  · rw [upd_ne (fun z => n (by rw [z]; exact ha))]; exact e
  · rw [upd_ne (fun z => by rw [z, h] at e; cases e)]; exact e
  · rw [upd_ne (fun z => by rw [z, h] at e; cases e)]; exact e
  · by_cases z : b = a
    · subst z; exact ⟨u, upd_same⟩
    · exact ⟨o, by rw [upd_ne z]; exact e⟩
theorem RepS.putL {n : Nat} {a : Addr} {xs : List V} {ys : List D} {vs : List V} (s : RepS K ρ H st) (e : ρ[n]? = some a) (h : H a = some (.lst xs)) (r : RepL K ρ H ys vs) : RepS K ρ (upd H a (.lst vs)) (st.set n (.lst ys)) :=
  have g : Grow ρ ρ H (upd H a (.lst vs)) := .put (List.mem_of_getElem? e) h
  s.put e g.stay ⟨_, upd_same, vs, rfl, r.stay g.stay⟩
theorem RepS.lstAt {n : Nat} {v : V} {xs : List D} (s : RepS K ρ H st) (r : RepH K ρ H (.ref n) v) (e : st[n]? = some (.lst xs)) : ∃ a vs, v = .ref a ∧ ρ[n]? = some a ∧ H a = some (.lst vs) ∧ RepL K ρ H xs vs := by
  obtain ⟨a, rfl, h1, u, h2, vs, rfl, h3⟩ := r.cellRef s e
  exact ⟨a, vs, rfl, h1, h2, h3⟩
theorem RepS.freeAt {v : V} {d : D} {xs : List D} (s : RepS K ρ H st) (r : RepH K ρ H d v) (e : freeL st d = some xs) : ∃ a vs, v = .ref a ∧ H a = some (.lst vs) ∧ RepL K ρ H xs vs := by
  unfold freeL at e
  split at e
  · cases e
    obtain ⟨a, vs, rfl, _, h2, h3⟩ := r.tmpL
    exact ⟨a, vs, rfl, h2, h3⟩
  · split at e
    · rename_i e'
      cases e
      obtain ⟨a, vs, rfl, _, h2, h3⟩ := s.lstAt r e'
      exact ⟨a, vs, rfl, h2, h3⟩
    · cases e
  · cases e
theorem cellAt_kept {d : D} {v : V} {c : Cell} (s : RepS K ρ H st) (r : RepH K ρ H d v) (e : cellAt st d = some c) : (∃ xs, c = .lst xs) ∨ ∃ kvs, c = .dct kvs := by
  cases r with
  | kept r =>
    cases r with
    | @ref n a hn =>
      have e' : (st[n]?).map Cell.bare = some c := e
      cases q : st[n]? with
      | none => rw [q] at e'; cases e'
      | some c' =>
        rw [q] at e'
        have hc := s.at_ n c' a q hn
        cases c' with
        | lst ys => cases e'; exact .inl ⟨_, rfl⟩
        | dct _ => cases e'; exact .inr ⟨_, rfl⟩
        | lck c2 =>
          have e2 : c2 = c := by simpa [Cell.bare] using e'
          subst e2
          obtain ⟨_, _, _, z⟩ := hc
          cases c2 with
          | lst ys => exact .inl ⟨_, rfl⟩
          | dct _ => exact .inr ⟨_, rfl⟩
          | lck _ => exact z.elim
    | frl _ _ => cases e; exact .inl ⟨_, rfl⟩
    | _ => cases e
  | tmp _ _ z =>
    cases e
    cases c with
    | lst ys => exact .inl ⟨_, rfl⟩
    | dct _ => exact .inr ⟨_, rfl⟩
    | lck _ => exact z.elim
end
section
variable {X : Cx} {E : EK} {a b e o : Expr} {fa fb fe fo : Ex} {pos p2 p p3 apos : Pos} {x name : Str}

/-! ### isinstance -/
theorem tyX_of {ρ : List Addr} {H : Hp} {st : Sto} {d : D} {v : V} {T : String} (rs : RepS X.K ρ H st) (rd : RepH X.K ρ H d v) (h : typeName st d = some T) : TyX X.K H v (.type T) := by
  have tupT : ∀ {a : Addr} {vs : List V}, TupX X.K ρ H a vs → TyX X.K H (.ref a) (.type "tuple") := fun {a vs} t => by
    rcases t with ⟨o, t, _⟩ | ⟨o, its, n, t, c, _⟩
    · exact .fTuple t
    · exact .kTuple t c
  have lstT : ∀ {xs : List D}, cellAt st d = some (.lst xs) → TyX X.K H v (.type "list") := fun {xs} e => by
    obtain ⟨a, vs, rfl, t, _⟩ := rs.read rd e
    rcases t with (t | ⟨o, t⟩) | ⟨o, its, n, t, c, _⟩
    · exact .base (.lst t)
    · exact .base (.frz t)
    · exact .kList t c
  cases d with
  | non => cases h; rw [rd.non]; exact .base .non
  | bl k => cases h; rw [rd.bl]; exact .base (.bl k)
  | int k => cases h; rw [rd.int]; exact .base (.int k)
  | str k => cases h; rw [rd.str]; exact .base (.str k)
  | tup xs => cases h; obtain ⟨a, vs, rfl, t, _⟩ := rd.tup; exact tupT t
  | row xs =>
    cases h
    cases rd with
    | kept rd => cases rd with
      | row t l => exact t.elim (fun t => .base (.tup t)) tupT
  | _ =>
    all_goals
      simp only [typeName] at h
      split at h
      · rename_i e; cases h; exact lstT e
      · rename_i e
        cases h
        obtain ⟨a, ps, rfl, t, _⟩ := rs.readD rd e
        rcases t with t | ⟨o, t⟩
        · exact .base (.dK t)
        · exact .fDict t
      · cases h
def isiTypes : List String := ["int", "bool", "str", "tuple", "list", "dict"]
theorem kitB_tab : (["NoneType", "bool", "int", "str", "tuple", "list", "dict"].all fun t => isiTypes.all fun T => kitB t T == some (t == T || (t == "bool" && T == "int"))) = true := by decide +kernel
theorem typeName_mem {st : Sto} {d : D} {t : String} (h : typeName st d = some t) : t ∈ ["NoneType", "bool", "int", "str", "tuple", "list", "dict"] := by
  unfold typeName at h
  split at h
  all_goals first
    | (cases h; simp; done)
    | (split at h
       all_goals first
         | (cases h; simp; done)
         | cases h)
theorem de_isi {T : String} (hT : T ∈ isiTypes) (hg : Gl X "isinstance") (hm : X.mg "isinstance" = none) (hg2 : Gl X x) (hm2 : X.mg x = none) (hv2 : bootBuiltins x = some (.type T)) (ha : DE X E a fa) (hs : starEach [a, .Name x p2] X.env = [(false, eval a X.env), (false, eval (.Name x p2) X.env)])
    (hn : x ≠ "__name__" := by decide) (hd : (x == ("__debug__" : Str)) = false := by decide) : DE X E (.Call (.Name "isinstance" p) [a, .Name x p2] [] pos) (un1 (isInst T) fa) :=
  pe_imp (pe_callB call_isi hg hm (by decide +kernel) (pa_cons ha (pa_cons (pe_bltn (v := .ty T) hg2 hm2 hv2 rfl hn hd) pa_nil (by rfl)) (by rw [hs]; rfl)) (by decide) (by decide) (by rw [hs]; rfl) (by rfl)) fun σ H Q ⟨ρ, fr, st, rf, rs, w⟩ =>
    tOf.bnd rf rs w fun d v st1 ρ1 H1 g1 s1 rf1 rh f1 w1 => by
      unfold isInst at w1
      split at w1
      · rename_i t ht
        refine ⟨v, .ty T, .type t, .type T, t == T || (t == "bool" && T == "int"), rfl, .ty T, ?_, kit_ty ?_, Pd.kept (Q := fun _ v _ _ H' => Q v H') w1 g1 s1 (.bl _)⟩
        · exact tyX_of s1 rh ht
        · have h1 := List.all_eq_true.mp kitB_tab t (typeName_mem ht)
          have h2 := List.all_eq_true.mp h1 T hT
          exact eq_of_beq h2
      · exact w1.elim

/-! ### methods of built-in types -/
theorem mType_is {pins : List (Addr × Obj)} {s : Shared} {σ : L2.St} {ρ : List Addr} {H : Hp} {st : Sto} {d : D} {v : V} {u : Value} {T : String} (I : Inv X pins σ H s) (ru : RelV v u) (rs : RepS X.K ρ H st) (rd : RepH X.K ρ H d v) (h : mType st d = some T) :
    s.TypeIs u T ∧ ∀ a, u = .ref a → ∃ ob, s.heap.get? a = some ob ∧ ob.dict = none := by
  have lstT : ∀ {xs : List D}, cellAt st d = some (.lst xs) → s.TypeIs u "list" ∧ ∀ a, u = .ref a → ∃ ob, s.heap.get? a = some ob ∧ ob.dict = none := fun {xs} e => by
    obtain ⟨a, vs, rfl, t, _⟩ := rs.read rd e
    cases ru
    obtain ⟨its, _, pl, _⟩ := I.list t
    refine ⟨pl.isList.typeIs, fun a e => ?_⟩
    cases e
    obtain ⟨o, n, e, c, hd, _⟩ := pl
    exact ⟨o, e, hd⟩
  cases d with
  | str z =>
    cases h
    have e := rd.str
    subst e
    obtain ⟨t, rfl⟩ := ru
    exact ⟨typeIs_str s z t, fun _ e => nomatch e⟩
  | tup xs =>
    cases h
    obtain ⟨a, vs, rfl, t, _⟩ := rd.tup
    cases ru
    rcases t with ⟨o, t, _, hd, hc⟩ | ⟨o, its, n, t, hc, hd, _⟩
    · obtain ⟨e, _⟩ := I.hok a _ t
      exact ⟨⟨o, e, hc⟩, fun b z => by cases z; exact ⟨o, e, hd⟩⟩
    · have e := I.kIn a o t
      exact ⟨⟨o, e, hc⟩, fun b z => by cases z; exact ⟨o, e, hd⟩⟩
  | _ =>
    all_goals
      simp only [mType] at h
      split at h
      · rename_i e; cases h; exact lstT e
      · rename_i e
        cases h
        obtain ⟨a, ps, rfl, t, _⟩ := rs.readD rd e
        cases ru
        have g : DGet H a (kV (.inl 0)) (valV ps (.inl 0)) := .inl ⟨ps, .inl 0, t, rfl, rfl⟩
        exact ⟨dict_typeIs I g, dict_noDict I g⟩
      · cases h
/-- what a method's row of the table says -/
structure MethT (name : Str) (T id : String) : Prop where
  pa : PlainAttrs T
  slot : Slot T name id
  ty : typeOf (.builtin id) = pure (.type "method_descriptor")
def mOf1 (K : PySem.W.Frag) (E : EK) (T : String) (f : D → D → M D) : V → List V → Hp → VK → Prop := fun x vs H Q => ∃ y, vs = [y] ∧ ∃ ρ st d e, RepS K ρ H st ∧ RepH K ρ H d x ∧ RepH K ρ H e y ∧ mType st d = some T ∧ Wp K E (f d e st) ρ H (Pd K H fun _ v _ _ H' => Q v H')
def mOf0 (K : PySem.W.Frag) (E : EK) (T : String) (f : D → M D) : V → List V → Hp → VK → Prop := fun x vs H Q => vs = [] ∧ ∃ ρ st d, RepS K ρ H st ∧ RepH K ρ H d x ∧ mType st d = some T ∧ Wp K E (f d st) ρ H (Pd K H fun _ v _ _ H' => Q v H')
def mOf2 (K : PySem.W.Frag) (E : EK) (T : String) (f : D → D → D → M D) : V → List V → Hp → VK → Prop := fun x vs H Q => ∃ y z, vs = [y, z] ∧ ∃ ρ st d e c, RepS K ρ H st ∧ RepH K ρ H d x ∧ RepH K ρ H e y ∧ RepH K ρ H c z ∧ mType st d = some T ∧ Wp K E (f d e c st) ρ H (Pd K H fun _ v _ _ H' => Q v H')
/-- a method is served: by its receiver's type -/
def Served1 (X : Cx) (E : EK) (name : Str) (Ts : List String) (f : D → D → M D) : Prop := ∀ T ∈ Ts, ∃ id, MethT name T id ∧ MtM X id (mOf1 X.K E T f)
def Served0 (X : Cx) (E : EK) (name : Str) (Ts : List String) (f : D → M D) : Prop := ∀ T ∈ Ts, ∃ id, MethT name T id ∧ MtM X id (mOf0 X.K E T f)
def Served2 (X : Cx) (E : EK) (name : Str) (Ts : List String) (f : D → D → D → M D) : Prop := ∀ T ∈ Ts, ∃ id, MethT name T id ∧ MtM X id (mOf2 X.K E T f)
theorem de_meth1 {Ts : List String} {f : D → D → M D} (S : Served1 X E name Ts f) (ho : DE X E o fo) (ha : DE X E a fa)
    (hbase : attributeBase o name X.env (eval o X.env) = eval o X.env) (hline : (apos.endLine == pos.line) = true) (hs : starEach [a] X.env = [(false, eval a X.env)]) : DE X E (.Call (.Attribute o name apos) [a] [] pos) (meth1 Ts f fo fa) := by
  refine ⟨fun pins s σ H Q I ⟨ρ, fr, st, rf, rs, w⟩ => ?_⟩
  refine wpAny_Call_method_late hbase (by rw [hs]; rfl) hline rfl ?_
  have ho' := ho.run pins s σ H (fun v H1 => ∃ d st1 ρ1, Grow ρ ρ1 H H1 ∧ RepS X.K ρ1 H1 st1 ∧ RepF X.K ρ1 H1 fr σ ∧ RepH X.K ρ1 H1 d v ∧ Fresh H d v ∧ Wp X.K E ((kindM Ts d st1).bnd fun T => bnd (fa fr) fun y => bnd (sameM T d) fun _ => f d y) ρ H (Pd X.K H fun _ v _ _ H' => Q v H')) I
    (tOf.bnd rf rs w fun d v st1 ρ1 H1 g1 s1 rf1 rh f1 w1 => ⟨d, st1, ρ1, g1, s1, rf1, rh, f1, w1⟩)
  refine thn ho' fun v s1 ⟨x, H1, I1, r1, d, st1, ρ1, g1, rs1, rf1, rh, f1, w1⟩ => ?_
  unfold kindM at w1
  split at w1
  · rename_i T hT
    split at w1
    · rename_i hc
      obtain ⟨id, mt, hm⟩ := S T (List.contains_iff_mem.mp hc)
      obtain ⟨h1, h2⟩ := mType_is I1 r1 rs1 rh hT
      refine ⟨T, id, mt.pa, mt.slot, mt.ty, h1, h2, ?_⟩
      have w2 : Wp X.K E ((fa fr st1).bnd fun y => bnd (sameM T d) fun _ => f d y) ρ1 H1 (Pd X.K H1 fun _ v _ _ H' => Q v H') := Wp.re w1 g1
      have hA := (pa_cons ha pa_nil hs).run pos pins s1 σ H1 (fun vs H2 => ∃ y, vs = [y] ∧ ∃ e st2 ρ2, Grow ρ1 ρ2 H1 H2 ∧ RepS X.K ρ2 H2 st2 ∧ RepH X.K ρ2 H2 e y ∧ Wp X.K E ((sameM T d st2).bnd fun _ => f d e) ρ1 H1 (Pd X.K H1 fun _ v _ _ H' => Q v H')) I1
        (tOf.bnd rf1 rs1 w2 fun e y st2 ρ2 H2 g2 s2 rf2 rh2 f2 w3 => ⟨y, rfl, e, st2, ρ2, g2, s2, rh2, w3⟩)
      rw [hs] at hA ⊢
      refine Calls.callWith_builtin (by rfl) (Calls.evalArgs_plain ?_)
      refine thn hA fun us s2 ⟨vs, H2, I2, r2, y, e0, e, st2, ρ2, g2, rs2, rh2, w3⟩ => ?_
      subst e0
      unfold sameM at w3
      split at w3
      · rename_i hT2
        exact hm pins s2 σ H2 x _ v us Q I2 r1 r2 ⟨y, rfl, ρ2, st2, d, e, rs2, rh.grow g2, rh2, hT2, Wp.re w3 g2⟩
      · exact w3.elim
    · exact w1.elim
  · exact w1.elim
theorem de_meth1s {Ts : List String} {f : D → D → M D} (S : Served1 X E name Ts f) (ho : DE X E o fo) (ha : DE X E a fa)
    (hbase : attributeBase o name X.env (eval o X.env) = eval o X.env) (hline : (apos.endLine == pos.line) = true) (hs : starEach [a] X.env = [(false, eval a X.env)]) : DE X E (.Call (.Attribute o name apos) [a] [] pos) (meth1s Ts f fo fa) := by
  refine ⟨fun pins s σ H Q I ⟨ρ, fr, st, rf, rs, w⟩ => ?_⟩
  refine wpAny_Call_method_late hbase (by rw [hs]; rfl) hline rfl ?_
  have ho' := ho.run pins s σ H (fun v H1 => ∃ d st1 ρ1, Grow ρ ρ1 H H1 ∧ RepS X.K ρ1 H1 st1 ∧ RepF X.K ρ1 H1 fr σ ∧ RepH X.K ρ1 H1 d v ∧ Fresh H d v ∧ Wp X.K E ((kindM Ts d st1).bnd fun T => bnd (fa fr) fun y => bnd (settle y) fun y => bnd (sameM T d) fun _ => f d y) ρ H (Pd X.K H fun _ v _ _ H' => Q v H')) I
    (tOf.bnd rf rs w fun d v st1 ρ1 H1 g1 s1 rf1 rh f1 w1 => ⟨d, st1, ρ1, g1, s1, rf1, rh, f1, w1⟩)
  refine thn ho' fun v s1 ⟨x, H1, I1, r1, d, st1, ρ1, g1, rs1, rf1, rh, f1, w1⟩ => ?_
  unfold kindM at w1
  split at w1
  · rename_i T hT
    split at w1
    · rename_i hc
      obtain ⟨id, mt, hm⟩ := S T (List.contains_iff_mem.mp hc)
      obtain ⟨h1, h2⟩ := mType_is I1 r1 rs1 rh hT
      refine ⟨T, id, mt.pa, mt.slot, mt.ty, h1, h2, ?_⟩
      have w2 : Wp X.K E ((fa fr st1).bnd fun y => bnd (settle y) fun y => bnd (sameM T d) fun _ => f d y) ρ1 H1 (Pd X.K H1 fun _ v _ _ H' => Q v H') := Wp.re w1 g1
      have hA := (pa_cons ha pa_nil hs).run pos pins s1 σ H1 (fun vs H2 => ∃ y, vs = [y] ∧ ∃ e st2 ρ2, Grow ρ1 ρ2 H1 H2 ∧ RepS X.K ρ2 H2 st2 ∧ RepH X.K ρ2 H2 e y ∧ Wp X.K E ((sameM T d st2).bnd fun _ => f d e) ρ1 H1 (Pd X.K H1 fun _ v _ _ H' => Q v H')) I1
        (tOf.bnd rf1 rs1 w2 fun e y st2 ρ2 H2 g2 s2 rf2 rh2 f2 w3 => by
          obtain ⟨e', ρ3, st3, g3, y3, s3, r3, w4⟩ := settled w3 g2 s2 rh2 f2
          exact ⟨y, rfl, e', st3, ρ3, g3, s3, .kept r3, w4⟩)
      rw [hs] at hA ⊢
      refine Calls.callWith_builtin (by rfl) (Calls.evalArgs_plain ?_)
      refine thn hA fun us s2 ⟨vs, H2, I2, r2, y, e0, e, st2, ρ2, g2, rs2, rh2, w3⟩ => ?_
      subst e0
      unfold sameM at w3
      split at w3
      · rename_i hT2
        exact hm pins s2 σ H2 x _ v us Q I2 r1 r2 ⟨y, rfl, ρ2, st2, d, e, rs2, rh.grow g2, rh2, hT2, Wp.re w3 g2⟩
      · exact w3.elim
    · exact w1.elim
  · exact w1.elim
theorem de_meth0 {Ts : List String} {f : D → M D} (S : Served0 X E name Ts f) (ho : DE X E o fo)
    (hbase : attributeBase o name X.env (eval o X.env) = eval o X.env) (hline : (apos.endLine == pos.line) = true) : DE X E (.Call (.Attribute o name apos) [] [] pos) (meth0 Ts f fo) := by
  refine ⟨fun pins s σ H Q I ⟨ρ, fr, st, rf, rs, w⟩ => ?_⟩
  refine wpAny_Call_method0_late hbase hline ?_
  have ho' := ho.run pins s σ H (fun v H1 => ∃ d st1 ρ1, Grow ρ ρ1 H H1 ∧ RepS X.K ρ1 H1 st1 ∧ RepF X.K ρ1 H1 fr σ ∧ RepH X.K ρ1 H1 d v ∧ Fresh H d v ∧ Wp X.K E ((kindM Ts d st1).bnd fun T => f d) ρ H (Pd X.K H fun _ v _ _ H' => Q v H')) I
    (tOf.bnd rf rs w fun d v st1 ρ1 H1 g1 s1 rf1 rh f1 w1 => ⟨d, st1, ρ1, g1, s1, rf1, rh, f1, w1⟩)
  refine thn ho' fun v s1 ⟨x, H1, I1, r1, d, st1, ρ1, g1, rs1, rf1, rh, f1, w1⟩ => ?_
  unfold kindM at w1
  split at w1
  · rename_i T hT
    split at w1
    · rename_i hc
      obtain ⟨id, mt, hm⟩ := S T (List.contains_iff_mem.mp hc)
      obtain ⟨h1, h2⟩ := mType_is I1 r1 rs1 rh hT
      refine ⟨T, id, mt.pa, mt.slot, mt.ty, h1, h2, ?_⟩
      exact Calls.callWith_builtin rfl (PySem.evalArgs_none (hm pins s1 σ H1 x [] v [] Q I1 r1 .nil ⟨rfl, ρ1, st1, d, rs1, rh, hT, Wp.re w1 g1⟩))
    · exact w1.elim
  · exact w1.elim
theorem RepH.noTmp {K : PySem.W.Frag} {ρ : List Addr} {H : Hp} {d : D} {v : V} (h : RepH K ρ H d v) (n : isTmp d = false) : Rep K ρ H d v := by
  cases h with
  | kept h => exact h
  | tmp _ _ _ => cases n
theorem served_append : Served1 X E "append" ["list"] appendD := by
  intro T hT
  obtain rfl := List.mem_singleton.mp hT
  refine ⟨_, ⟨PySem.F.plainAttrs_list, PySem.F.slot_list_append, PySem.F.type_list_append⟩, ?_⟩
  intro pins s σ H x vs v us Q I rx rv ⟨y, e0, ρ, st, d, e, rs, rd, re, hT, w⟩
  subst e0
  unfold appendD at w
  split at w
  · rename_i n
    split at w
    · rename_i xs hx
      split at w
      · rename_i hc
        obtain ⟨h1, h2⟩ := Bool.and_eq_true_iff.mp hc
        have h2 : xs.length + 1 ≤ sizeLine := of_decide_eq_true h2
        have re' := re.noTmp (by simpa using h1)
        obtain ⟨a, ws, rfl, hn, ha, l⟩ := rs.lstAt rd hx
        exact mt_append pins s σ H _ _ v us Q I rx rv ⟨a, ws, y, rfl, rfl, ha, by rw [← l.length]; omega, Pd.kept (Q := fun _ v _ _ H' => Q v H') w (.put (List.mem_of_getElem? hn) ha) (rs.putL hn ha (l.append (.cons re' .nil))) .non⟩
      · exact w.elim
    · exact w.elim
  · exact w.elim
theorem served_extend : Served1 X E "extend" ["list"] extendD := by
  intro T hT
  obtain rfl := List.mem_singleton.mp hT
  refine ⟨_, ⟨PySem.F.plainAttrs_list, PySem.F.slot_list_extend, PySem.F.type_list_extend⟩, ?_⟩
  intro pins s σ H x vs v us Q I rx rv ⟨y, e0, ρ, st, d, e, rs, rd, re, hT, w⟩
  subst e0
  unfold extendD at w
  split at w
  · rename_i n
    split at w
    · rename_i xs ys hx hy
      split at w
      · rename_i hc
        have h2 : xs.length + ys.length ≤ sizeLine := of_decide_eq_true hc
        obtain ⟨a, ws, rfl, hn, ha, l⟩ := rs.lstAt rd hx
        obtain ⟨b, zs, rfl, hb, k⟩ := rs.freeAt re hy
        exact mt_extend pins s σ H _ _ v us Q I rx rv ⟨a, b, ws, zs, rfl, rfl, ha, hb, by rw [← l.length, ← k.length]; exact h2, Pd.kept (Q := fun _ v _ _ H' => Q v H') w (.put (List.mem_of_getElem? hn) ha) (rs.putL hn ha (l.append k)) .non⟩
      · exact w.elim
    · exact w.elim
  · exact w.elim
theorem served_pop : Served1 X E "pop" ["list"] popD := by
  intro T hT
  obtain rfl := List.mem_singleton.mp hT
  refine ⟨_, ⟨PySem.F.plainAttrs_list, PySem.F.slot_list_pop, PySem.F.type_list_pop⟩, ?_⟩
  intro pins s σ H x vs v us Q I rx rv ⟨y, e0, ρ, st, d, e, rs, rd, re, hT, w⟩
  subst e0
  unfold popD at w
  split at w
  · rename_i n k
    split at w
    · rename_i xs hx
      split at w
      · rename_i j hj
        split at w
        · rename_i z hz
          obtain ⟨a, ws, rfl, hn, ha, l⟩ := rs.lstAt rd hx
          obtain ⟨h1, h2, h3, h4⟩ := ixN_seq hj
          obtain ⟨u, hu, ru⟩ := l.get hz
          have hl := l.length
          have hz' : xs.length ≤ sizeLine := by rw [hl]; exact (I.lst ha).elim fun _ ⟨_, _, _, q⟩ => q
          have hsz : sizeLine = 16777216 := sizeLine_eq
          exact mt_popAt pins s σ H _ _ v us Q I rx rv ⟨a, ws, k, j, u, rfl, by rw [re.int], ha, by omega, by omega, by rw [← hl]; exact h1, hu, Pd.kept (Q := fun _ v _ _ H' => Q v H') w (.put (List.mem_of_getElem? hn) ha) (rs.putL hn ha (l.eraseIdx j)) (ru.stay (Grow.put (ρ := ρ) (List.mem_of_getElem? hn) ha).stay)⟩
        · exact w.elim
      · exact w.elim
    · exact w.elim
  · exact w.elim
theorem served_pop0 : Served0 X E "pop" ["list"] pop0D := by
  intro T hT
  obtain rfl := List.mem_singleton.mp hT
  refine ⟨_, ⟨PySem.F.plainAttrs_list, PySem.F.slot_list_pop, PySem.F.type_list_pop⟩, ?_⟩
  intro pins s σ H x vs v us Q I rx rv ⟨e0, ρ, st, d, rs, rd, hT, w⟩
  subst e0
  unfold pop0D at w
  split at w
  · rename_i n
    split at w
    · rename_i xs hx
      split at w
      · rename_i z hz
        obtain ⟨a, ws, rfl, hn, ha, l⟩ := rs.lstAt rd hx
        obtain ⟨u, hu, ru⟩ := l.get hz
        exact mt_pop pins s σ H _ _ v us Q I rx rv ⟨a, ws, u, rfl, rfl, ha, by rw [← l.length]; exact hu, Pd.kept (Q := fun _ v _ _ H' => Q v H') w (.put (List.mem_of_getElem? hn) ha) (rs.putL hn ha l.dropLast) (ru.stay (Grow.put (ρ := ρ) (List.mem_of_getElem? hn) ha).stay)⟩
      · exact w.elim
    · exact w.elim
  · exact w.elim
end
end Ev
set_option Elab.async false
set_option linter.all false
set_option maxRecDepth 100000
set_option maxHeartbeats 4000000
/-! Ev, part 9: tests, and, or, not, if .. else, chains. -/
namespace Ev
open PySem PySem.Spec PyProof.Rows L2
section
variable {X : Cx} {E : EK} {a b c e o : Expr} {fa fb fc fe fo : Ex} {ta tb : Te} {pos p2 p p3 apos : Pos} {x name : Str} {rest : List Expr}

theorem truV_of {ρ ρ0 : List Addr} {H H0 : Hp} {st : Sto} {d : D} {v : V} {P : Bool → Sto → List Addr → Hp → Prop} (rs : RepS X.K ρ H st) (rd : RepH X.K ρ H d v) (w : Wp X.K E (truD d st) ρ0 H0 P) : ∃ k, TruV X.K v H k ∧ truD d st = .ok k st := by
  unfold truD at w ⊢
  split at w
  · rename_i k; rw [rd.bl]; exact ⟨_, rfl, rfl⟩
  · rw [rd.non]; exact ⟨_, rfl, rfl⟩
  · rename_i i; rw [rd.int]; exact ⟨_, rfl, rfl⟩
  · rename_i z
    split at w
    · rename_i hz
      rw [rd.str, if_pos hz]
      refine ⟨_, ⟨of_decide_eq_true hz, rfl⟩, ?_⟩
      congr 1
      cases h : z.length with
      | zero => rfl
      | succ n =>
        have h1 : (n + 1 != 0) = true := by simp
        have h2 : (((n + 1 : Nat) : Int) != 0) = true := by
          rw [bne_iff_ne]; omega
        rw [h1, h2]
    · exact w.elim
  · rename_i xs
    obtain ⟨q, vs, rfl, t, l⟩ := rd.tup
    refine ⟨!xs.isEmpty, .inr (.inl ⟨vs, t.sq, ?_⟩), rfl⟩
    have := l.length
    cases xs <;> cases vs <;> first | rfl | simp at this
  · split at w
    · rename_i xs e
      obtain ⟨q, vs, rfl, t, l⟩ := rs.read rd e
      refine ⟨!xs.isEmpty, .inl ⟨vs, t, ?_⟩, rfl⟩
      have := l.length
      cases xs <;> cases vs <;> first | rfl | simp at this
    · rename_i kvs e
      split at w
      · rename_i ys q
        obtain ⟨a, ps, rfl, t, l⟩ := rs.dctAt rd q
        obtain ⟨_, ps2, e2, t2, l2⟩ := rs.readD rd e
        cases e2
        rcases t2 with t2 | ⟨_, t2⟩
        · rw [t] at t2
          cases t2
          refine ⟨!kvs.isEmpty, .inr (.inr ⟨ps, t, ?_⟩), rfl⟩
          have := l2.length
          cases kvs <;> cases ps <;> first | rfl | simp at this
        · rw [t] at t2
          cases t2
      · exact w.elim
    · exact w.elim
theorem dt_plain (ha : DE X E a fa) (he : ∀ whole, isTrue a X.env whole = (do let v ← whole; standAt a.pos; holding [v] (truthy v))) : DT X E a (testE fa) :=
  pt_imp (pt_truth ha he) fun σ H Q ⟨ρ, fr, st, rf, rs, w⟩ => tOf.bnd rf rs w fun d v st1 ρ1 H1 g1 s1 rf1 rh f1 w1 => by
    obtain ⟨k, t, e⟩ := truV_of s1 rh w1
    rw [e] at w1
    exact ⟨k, t, w1 ρ1 H1 g1 s1⟩
theorem dt_cmp {op : CmpOp} {g : D → D → M D} (ho : OpR X (compareOp op) (rOf X.K E g)) (ha : DE X E a fa) (hb : DE X E b fb) (hm : behindInMarks op b = false) : DT X E (.Compare a [op] [b] pos) (testE (bin2 g fa fb)) := by
  refine ⟨fun pins s σ H Q I h => ?_⟩
  obtain ⟨ρ, fr, st, rf, rs, w⟩ := h
  have w' : Wp X.K E ((fa fr st).bnd fun x => bnd (bnd (fb fr) fun y => g x y) truD) ρ H fun b _ _ H' => Q b H' := by
    have : (testE (bin2 g fa fb) fr st) = ((fa fr st).bnd fun x => bnd (bnd (fb fr) fun y => g x y) truD) := by
      show ((fa fr st).bnd _).bnd truD = _
      cases fa fr st <;> rfl
    rw [this] at w
    exact w
  refine wpAny_isTrue_Compare1 (thn (ha.run pins s σ H (fun v H1 => ∃ d st1 ρ1, Grow ρ ρ1 H H1 ∧ RepS X.K ρ1 H1 st1 ∧ RepF X.K ρ1 H1 fr σ ∧ RepH X.K ρ1 H1 d v ∧ Wp X.K E ((bnd (bnd (fb fr) fun y => g d y) truD) st1) ρ H fun b _ _ H' => Q b H') I
    (tOf.bnd rf rs w' fun d v st1 ρ1 H1 g1 s1 rf1 rh f1 w1 => ⟨d, st1, ρ1, g1, s1, rf1, rh, w1⟩)) fun v s1 ⟨x, H1, I1, r1, d, st1, ρ1, g1, rs1, rf1, rh, w1⟩ => ?_) hm
  have w2 : Wp X.K E ((fb fr st1).bnd fun y => bnd (g d y) truD) ρ1 H1 fun b _ _ H' => Q b H' := by
    have : (bnd (bnd (fb fr) fun y => g d y) truD) st1 = ((fb fr st1).bnd fun y => bnd (g d y) truD) := by
      show ((fb fr st1).bnd _).bnd truD = _
      cases fb fr st1 <;> rfl
    rw [this] at w1
    exact w1.base g1
  refine thn (hb.run pins s1 σ H1 (fun u H2 => ∃ e st2 ρ2, Grow ρ1 ρ2 H1 H2 ∧ RepS X.K ρ2 H2 st2 ∧ RepH X.K ρ2 H2 e u ∧ Wp X.K E ((bnd (g d e) truD) st2) ρ1 H1 fun b _ _ H' => Q b H') I1
    (tOf.bnd rf1 rs1 w2 fun e u st2 ρ2 H2 g2 s2 rf2 rh2 f2 w3 => ⟨e, st2, ρ2, g2, s2, rh2, w3⟩)) fun u s2 ⟨y, H2, I2, r2, e, st2, ρ2, g2, rs2, rh2, w3⟩ => ?_
  have w4 : Wp X.K E ((g d e st2).bnd truD) ρ2 H2 fun b _ _ H' => Q b H' := w3.base g2
  refine thn (ho pins s2 σ H2 x y v u (fun z H3 => ∃ k, TruV X.K z H3 k ∧ Q k H3) I2 r1 r2 ⟨ρ2, st2, d, e, rs2, rh.grow g2, rh2, ?_⟩) fun z s3 ⟨zv, H3, I3, r3, k, tk, q⟩ => ?_
  · exact w4.bnd.mono fun d3 st3 ρ3 H3 g3 s3 w5 v3 rh3 f3 => by
      obtain ⟨k, t, e⟩ := truV_of s3 rh3 w5
      rw [e] at w5
      exact ⟨k, t, w5 ρ3 H3 g3 s3⟩
  · exact tru_ok pins s3 σ H3 zv z Q I3 r3 ⟨k, tk, q⟩
theorem dt_not (ha : DT X E a ta) : DT X E (.UnaryOp .Not a pos) (notT ta) :=
  pt_imp (pt_not ha) fun σ H Q ⟨ρ, fr, st, rf, rs, w⟩ => tTest.bnd rf rs w fun b st1 ρ1 H1 g1 s1 rf1 w1 => w1 ρ1 H1 g1 s1
theorem dw_and1 (ha : DT X E a ta) : DW X E (.BoolOp .And [a] pos) ta := pw_and1 ha
theorem dw_or1 (ha : DT X E a ta) : DW X E (.BoolOp .Or [a] pos) ta := pw_or1 ha
theorem dw_and (ha : DT X E a ta) (hb : DW X E (.BoolOp .And (b :: rest) pos) tb) : DW X E (.BoolOp .And (a :: b :: rest) pos) (andT ta tb) :=
  pw_imp (pw_and ha hb) fun σ H Q ⟨ρ, fr, st, rf, rs, w⟩ => tTest.bnd rf rs w fun k st1 ρ1 H1 g1 s1 rf1 w1 => by
    cases k with
    | true => exact ⟨ρ1, fr, st1, rf1, s1, w1.base g1⟩
    | false => exact w1 ρ1 H1 g1 s1
theorem dw_or (ha : DT X E a ta) (hb : DW X E (.BoolOp .Or (b :: rest) pos) tb) : DW X E (.BoolOp .Or (a :: b :: rest) pos) (orT ta tb) :=
  pw_imp (pw_or ha hb) fun σ H Q ⟨ρ, fr, st, rf, rs, w⟩ => tTest.bnd rf rs w fun k st1 ρ1 H1 g1 s1 rf1 w1 => by
    cases k with
    | false => exact ⟨ρ1, fr, st1, rf1, s1, w1.base g1⟩
    | true => exact w1 ρ1 H1 g1 s1
theorem de_one {op : BoolOp} (ha : DE X E a fa) : DE X E (.BoolOp op [a] pos) fa := pe_one ha
theorem de_and (ha : DE X E a fa) (hb : DE X E (.BoolOp .And (b :: rest) pos) fb) : DE X E (.BoolOp .And (a :: b :: rest) pos) (andE fa fb) :=
  pe_imp (pe_andT ha hb) fun σ H Q ⟨ρ, fr, st, rf, rs, w⟩ => tOf.bnd rf rs w fun d v st1 ρ1 H1 g1 s1 rf1 rh f1 w1 => by
    have w2 : Wp X.K E ((truD d st1).bnd fun c => if c then fb fr else ret d) ρ H (Pd X.K H fun _ v _ _ H' => Q v H') := w1
    obtain ⟨k, t, e⟩ := truV_of s1 rh w2.bnd
    rw [e] at w2
    refine ⟨k, t, ?_⟩
    cases k with
    | true => exact ⟨ρ1, fr, st1, rf1, s1, Wp.re w2 g1⟩
    | false => exact w2 ρ1 H1 g1 s1 v rh f1
theorem de_or (ha : DE X E a fa) (hb : DE X E (.BoolOp .Or (b :: rest) pos) fb) : DE X E (.BoolOp .Or (a :: b :: rest) pos) (orE fa fb) :=
  pe_imp (pe_orT ha hb) fun σ H Q ⟨ρ, fr, st, rf, rs, w⟩ => tOf.bnd rf rs w fun d v st1 ρ1 H1 g1 s1 rf1 rh f1 w1 => by
    have w2 : Wp X.K E ((truD d st1).bnd fun c => if c then ret d else fb fr) ρ H (Pd X.K H fun _ v _ _ H' => Q v H') := w1
    obtain ⟨k, t, e⟩ := truV_of s1 rh w2.bnd
    rw [e] at w2
    refine ⟨k, t, ?_⟩
    cases k with
    | false => exact ⟨ρ1, fr, st1, rf1, s1, Wp.re w2 g1⟩
    | true => exact w2 ρ1 H1 g1 s1 v rh f1
theorem de_not (ha : DE X E a fa) : DE X E (.UnaryOp .Not a pos) (notE fa) :=
  pe_imp (pe_notT ha) fun σ H Q ⟨ρ, fr, st, rf, rs, w⟩ => tOf.bnd rf rs w fun d v st1 ρ1 H1 g1 s1 rf1 rh f1 w1 => by
    have w2 : Wp X.K E ((truD d st1).bnd fun c => ret (.bl (!c))) ρ H (Pd X.K H fun _ v _ _ H' => Q v H') := w1
    obtain ⟨k, t, e⟩ := truV_of s1 rh w2.bnd
    rw [e] at w2
    exact ⟨k, t, Pd.kept (Q := fun _ v _ _ H' => Q v H') w2 g1 s1 (.bl _)⟩
theorem de_ifExp (hc : DT X E c ta) (ha : DE X E a fa) (hb : DE X E b fb) : DE X E (.IfExp c a b pos) (ifE ta fa fb) :=
  pe_imp (pe_ifExp hc ha hb) fun σ H Q ⟨ρ, fr, st, rf, rs, w⟩ => tTest.bnd rf rs w fun k st1 ρ1 H1 g1 s1 rf1 w1 => by
    cases k with
    | true => exact ⟨ρ1, fr, st1, rf1, s1, Wp.re w1 g1⟩
    | false => exact ⟨ρ1, fr, st1, rf1, s1, Wp.re w1 g1⟩
/-- a op b op' c: the first comparison gives a bool -/
theorem de_chain {op op' : CmpOp} {f g : D → D → M D} (ho : OpR X (compareOp op) (rOf X.K E f)) (ho' : OpR X (compareOp op') (rOf X.K E g)) (hbl : ∀ x y st d st', f x y st = .ok d st' → ∃ k, d = .bl k) (ha : DE X E a fa) (hb : DE X E b fb) (hc : DE X E c fc)
    (hm : lastMarks [op, op'] [b, c] = false) : DE X E (.Compare a [op, op'] [b, c] pos) (chainE f g fa fb fc) :=
  pe_imp (pe_chain ho ho' ha hb hc hm) fun σ H Q ⟨ρ, fr, st, rf, rs, w⟩ => tOf.bnd rf rs w fun x v st1 ρ1 H1 g1 s1 rf1 rh f1 w1 => tOf.bnd rf1 s1 (Wp.re w1 g1) fun y u st2 ρ2 H2 g2 s2 rf2 rh2 f2 w2 => by
    have w3 : Wp X.K E ((f x y st2).bnd fun z => bnd (truD z) fun k => if k then bnd (fc fr) fun w => g y w else ret z) ρ2 H2 (Pd X.K H2 fun _ v _ _ H' => Q v H') := Wp.re w2 g2
    have key : Wp X.K E (f x y st2) ρ2 H2 (Pd X.K H2 fun d z st3 ρ3 H3 => ∃ k, z = .bl k ∧ (if k = true then tOf X.K E fc σ H3 (fun w' H4 => rOf X.K E g u w' H4 Q) else Q (.bl false) H3)) := by
      cases q : f x y st2 with
      | ok d st3 =>
        obtain ⟨k, rfl⟩ := hbl _ _ _ _ _ q
        rw [q] at w3
        intro ρ3 H3 g3 s3 z rz fz
        refine ⟨k, rz.bl, ?_⟩
        cases k with
        | true =>
          rw [if_pos rfl]
          have w4 : Wp X.K E ((fc fr st3).bnd fun w => g y w) ρ2 H2 (Pd X.K H2 fun _ v _ _ H' => Q v H') := w3
          refine tOf.bnd (rf2.stay g3.stay) s3 (Wp.re w4 g3) fun t wv st4 ρ4 H4 g4 s4 rf4 rh4 f4 w5 => ?_
          exact ⟨ρ4, st4, y, t, s4, (rh2.grow g3).grow g4, rh4, Wp.re w5 g4⟩
        | false =>
          rw [if_neg Bool.false_ne_true]
          exact Pd.kept (Q := fun _ v _ _ H' => Q v H') w3 g3 s3 (.bl _)
      | exc c d st3 => rw [q] at w3; exact w3
      | stuck => rw [q] at w3; exact w3.elim
    exact ⟨ρ2, st2, x, y, s2, rh.grow g2, rh2, key⟩
end
end Ev
set_option Elab.async false
set_option linter.all false
set_option maxRecDepth 100000
set_option maxHeartbeats 4000000
/-! Ev, part 10: statements, targets, while. -/
namespace Ev
open PySem PySem.Spec PyProof.Rows L2

abbrev DS (X : Cx) (E : EK) (st : Stmt) (s : S) : Prop := PS X st (tStm X.K E s)
abbrev DSs (X : Cx) (E : EK) (st : List Stmt) (s : S) : Prop := PSs X st (tStm X.K E s)
/-- a statement's end -/
def FlP (K : PySem.W.Frag) (H : Hp) (D : Ends) : Fl → Sto → List Addr → Hp → Prop := fun f _ ρ' H' => match f with
  | .nx fr => ∀ σ', RepF K ρ' H' fr σ' → D.nx σ' H'
  | .bk fr => ∀ σ', RepF K ρ' H' fr σ' → D.bk σ' H'
  | .rt d => ∀ v, RepH K ρ' H' d v → Fresh H d v → D.rt v H'
theorem FlP.base {K : PySem.W.Frag} {ρ ρ1 : List Addr} {H H1 : Hp} {D : Ends} (g : Grow ρ ρ1 H H1) {f : Fl} {st : Sto} {ρ' : List Addr} {H' : Hp} (h : FlP K H D f st ρ' H') : FlP K H1 D f st ρ' H' := by
  cases f with
  | nx fr => exact h
  | bk fr => exact h
  | rt d => exact fun v r f => h v r (f.base g)
theorem Wp.reF {K : PySem.W.Frag} {E : EK} {r : R Fl} {ρ ρ1 : List Addr} {H H1 : Hp} {D : Ends} (h : Wp K E r ρ H (FlP K H D)) (g : Grow ρ ρ1 H H1) : Wp K E r ρ1 H1 (FlP K H1 D) :=
  (h.base g).mono fun _ _ _ _ _ _ p => p.base g
section
variable {X : Cx} {E : EK} {a b c e o i : Expr} {fa fb fc fe fo fi : Ex} {ta tb : Te} {pos p2 p p3 apos : Pos} {x name : Str} {st : Stmt} {rest body : List Stmt} {s t : S}
theorem ps_imp {t t' : TS} (h : PS X st t) (k : ∀ D σ H, t' D σ H → t D σ H) : PS X st t' := ⟨fun pins s σ H D I w => h.run pins s σ H D I (k D σ H w)⟩
theorem pss_imp {t t' : TS} (h : PSs X rest t) (k : ∀ D σ H, t' D σ H → t D σ H) : PSs X rest t' := ⟨fun pins s σ H D I w => h.run pins s σ H D I (k D σ H w)⟩
theorem tStm_eq {K : PySem.W.Frag} {s : S} {D : Ends} {σ : L2.St} {H : Hp} : tStm K E s D σ H = ∃ ρ fr st, RepF K ρ H fr σ ∧ RepS K ρ H st ∧ Wp K E (s fr st) ρ H (FlP K H D) := rfl
theorem dss_nil : DSs X E [] nopS := pss_imp pss_nil fun D σ H ⟨ρ, fr, st, rf, rs, w⟩ => w ρ H .refl rs σ rf
theorem dss_one (h : DS X E st s) : DSs X E [st] s := pss_one h
theorem dss_cons (h1 : DS X E st s) (h2 : DSs X E rest t) : DSs X E (st :: rest) (seqS s t) :=
  pss_imp (pss_cons h1 h2) fun D σ H ⟨ρ, fr, st, rf, rs, w⟩ => by
    have w' : Wp X.K E ((s fr st).bnd fun f => match f with
      | .nx fr => t fr
      | f => ret f) ρ H (FlP X.K H D) := w
    refine ⟨ρ, fr, st, rf, rs, w'.bnd.mono fun f st1 ρ1 H1 g1 s1 w1 => ?_⟩
    cases f with
    | nx fr1 => exact fun σ' rf1 => ⟨ρ1, fr1, st1, rf1, s1, Wp.reF w1 g1⟩
    | bk fr1 => exact w1 ρ1 H1 g1 s1
    | rt d => exact w1 ρ1 H1 g1 s1
theorem ds_pass : DS X E (.Pass pos) nopS := ps_imp ps_pass fun D σ H ⟨ρ, fr, st, rf, rs, w⟩ => w ρ H .refl rs σ rf
theorem ds_break : DS X E (.Break pos) brkS := ps_imp ps_break fun D σ H ⟨ρ, fr, st, rf, rs, w⟩ => w ρ H .refl rs σ rf
theorem ds_doc {y : Str} {j : Nat} {pos' : Pos} : DS X E (.Expr (.Constant (.str y) j pos) pos') nopS := ps_imp ps_doc fun D σ H ⟨ρ, fr, st, rf, rs, w⟩ => w ρ H .refl rs σ rf
theorem ds_expr (he : DE X E e fe) (hs : swapsWith e none pos.line X.env = pure false) : DS X E (.Expr e pos) (exprS fe) :=
  ps_imp (ps_expr he hs) fun D σ H ⟨ρ, fr, st, rf, rs, w⟩ => tOf.bnd rf rs w fun d v st1 ρ1 H1 g1 s1 rf1 rh f1 w1 => w1 ρ1 H1 g1 s1 σ rf1
theorem ds_ret (he : DE X E e fe) : DS X E (.Return (some e) pos) (retS fe) :=
  ps_imp (ps_ret he) fun D σ H ⟨ρ, fr, st, rf, rs, w⟩ => tOf.bnd rf rs w fun d v st1 ρ1 H1 g1 s1 rf1 rh f1 w1 => w1 ρ1 H1 g1 s1 v rh f1
theorem ds_retN : DS X E (.Return none pos) retN := ps_imp ps_retN fun D σ H ⟨ρ, fr, st, rf, rs, w⟩ => w ρ H .refl rs .non (.kept .non) (Fresh.kept (show Rep X.K ρ H .non .non from .non))
theorem ds_if {bs cs : List Stmt} (hc : DT X E c ta) (ha : DSs X E bs s) (hb : DSs X E cs t) : DS X E (.If c bs cs pos) (ifS ta s t) :=
  ps_imp (ps_if hc ha hb) fun D σ H ⟨ρ, fr, st, rf, rs, w⟩ => tTest.bnd rf rs w fun k st1 ρ1 H1 g1 s1 rf1 w1 => by
    cases k with
    | true => exact ⟨ρ1, fr, st1, rf1, s1, Wp.reF w1 g1⟩
    | false => exact ⟨ρ1, fr, st1, rf1, s1, Wp.reF w1 g1⟩

/-! ### targets -/
/-- the stores lie in the slots sl -/
def Off (sl : List Nat) (σ σ' : L2.St) : Prop := σ'.length = σ.length ∧ ∀ i, i ∉ sl → σ'[i]? = σ[i]?
theorem Off.refl {sl : List Nat} {σ : L2.St} : Off sl σ σ := ⟨rfl, fun _ _ => rfl⟩
theorem Off.trans {sl : List Nat} {σ σ1 σ2 : L2.St} (a : Off sl σ σ1) (b : Off sl σ1 σ2) : Off sl σ σ2 := ⟨b.1.trans a.1, fun i h => (b.2 i h).trans (a.2 i h)⟩
theorem Off.set {sl : List Nat} {σ : L2.St} {n : Nat} {v : Option V} (h : n ∈ sl) : Off sl σ (σ.set n v) := ⟨by simp, fun i hi => List.getElem?_set_ne (fun e => hi (by rw [← e]; exact h))⟩
def tTg (K : PySem.W.Frag) (E : EK) (sl : List Nat) (t : Tg) : TG := fun v σ H Q => ∃ ρ0 H0 ρ fr st d, Grow ρ0 ρ H0 H ∧ RepF K ρ H fr σ ∧ RepS K ρ H st ∧ RepH K ρ H d v ∧ Fresh H0 d v ∧ Wp K E (t d fr st) ρ0 H0 fun fr' _ ρ' H' => ∀ σ', RepF K ρ' H' fr' σ' → Off sl σ σ' → Q σ' H'
def tTgs (K : PySem.W.Frag) (E : EK) (sl : List Nat) (ts : List Tg) : TGs := fun vs σ H Q => ∃ ρ fr st ds, RepF K ρ H fr σ ∧ RepS K ρ H st ∧ RepL K ρ H ds vs ∧ ds.length = ts.length ∧ Wp K E (eachT ts ds fr st) ρ H fun fr' _ ρ' H' => ∀ σ', RepF K ρ' H' fr' σ' → Off sl σ σ' → Q σ' H'
abbrev DG (X : Cx) (E : EK) (sl : List Nat) (e : Expr) (t : Tg) : Prop := PG X e (tTg X.K E sl t)
abbrev DGs (X : Cx) (E : EK) (sl : List Nat) (es : List Expr) (ts : List Tg) : Prop := PGs X es (tTgs X.K E sl ts)
theorem pg_imp {t t' : TG} (h : PG X e t) (k : ∀ v σ H Q, t' v σ H Q → t v σ H Q) : PG X e t' := ⟨fun pins s σ H v u Q I r w => h.run pins s σ H v u Q I r (k v σ H Q w)⟩
theorem pgs_imp {es : List Expr} {t t' : TGs} (h : PGs X es t) (k : ∀ v σ H Q, t' v σ H Q → t v σ H Q) : PGs X es t' := ⟨fun pins s σ H v u Q I r w => h.run pins s σ H v u Q I r (k v σ H Q w)⟩
theorem RepF.set {K : PySem.W.Frag} {ρ : List Addr} {H : Hp} {fr : Fr} {σ : L2.St} {d : D} {v : V} (h : RepF K ρ H fr σ) (r : Rep K ρ H d v) (n : Nat) : RepF K ρ H (fr.set n (some d)) (σ.set n (some v)) := by
  refine ⟨by simp [h.len], fun i d' e => ?_⟩
  by_cases hi : i = n
  · subst hi
    have hl : i < fr.length := by
      by_cases q : i < fr.length
      · exact q
      · rw [List.getElem?_eq_none (by simp; omega)] at e; cases e
    rw [List.getElem?_set_self hl] at e
    cases e
    exact ⟨v, List.getElem?_set_self (by rw [← h.len]; exact hl), r⟩
  · rw [List.getElem?_set_ne (Ne.symm hi)] at e
    rw [List.getElem?_set_ne (Ne.symm hi)]
    exact h.at_ i d' e
theorem dg_name {n : Nat} {sl : List Nat} (hsl : n ∈ sl) (hN : X.N.Nodup) (hi : X.N[n]? = some x) (hx : Loc X.env.scope x) (hf : X.fn x = true ∨ X.env.scope.names.lookup x = some .local) : DG X E sl (.Name x pos) (setT n) :=
  pg_imp (pg_name hN hi hx hf) fun v σ H Q ⟨ρ0, H0, ρ, fr, st, d, g, rf, rs, rh, fs, w⟩ => by
    obtain ⟨d', ρ2, st2, g2, y2, s2, r2, w2⟩ := settled w g rs rh fs
    exact w2 ρ2 H g2 s2 _ ((rf.stay y2).set r2 n) (.set hsl)
theorem dgs_nil {sl : List Nat} : DGs X E sl [] [] := pgs_imp pgs_nil fun vs σ H Q ⟨ρ, fr, st, ds, rf, rs, l, hl, w⟩ => by
  have e : ds = [] := List.length_eq_zero_iff.mp hl
  subst e
  cases l
  exact ⟨rfl, w ρ H .refl rs σ rf .refl⟩
theorem dgs_cons {sl : List Nat} {es : List Expr} {t : Tg} {ts : List Tg} (h1 : DG X E sl e t) (h2 : DGs X E sl es ts) (hs : (assignEach (e :: es) X.env).map (·.2) = assign e X.env :: (assignEach es X.env).map (·.2)) : DGs X E sl (e :: es) (t :: ts) :=
  pgs_imp (pgs_cons h1 h2 hs) fun vs σ H Q ⟨ρ, fr, st, ds, rf, rs, l, hl, w⟩ => by
    cases ds with
    | nil => cases hl
    | cons d ds =>
      cases l with
      | @cons _ v _ vs r l =>
        refine ⟨v, vs, rfl, ρ, H, ρ, fr, st, d, .refl, rf, rs, .kept r, Fresh.kept r, ?_⟩
        have w' : Wp X.K E ((t d fr st).bnd fun fr => eachT ts ds fr) ρ H fun fr' _ ρ' H' => ∀ σ', RepF X.K ρ' H' fr' σ' → Off sl σ σ' → Q σ' H' := w
        refine w'.bnd.mono fun fr1 st1 ρ1 H1 g1 s1 w1 σ1 rf1 of1 => ?_
        exact ⟨ρ1, fr1, st1, ds, rf1, s1, l.stay g1.stay, by simpa using hl, (w1.base g1).mono fun fr2 st2 ρ2 H2 g2 s2 k σ2 rf2 of2 => k σ2 rf2 (of1.trans of2)⟩
theorem dg_tup {sl : List Nat} {es : List Expr} {ts : List Tg} {k : Nat} (hc : X.calm = true) (h : DGs X E sl es ts) (hn : (assignEach es X.env).length = ts.length) (hst : (assignEach es X.env).findIdx? (·.1) = none) : DG X E sl (.Tuple es k pos) (tupT ts) :=
  pg_imp (pg_tup (n := ts.length) hc h hn hst) fun v σ H Q ⟨ρ0, H0, ρ, fr, st, d, g, rf, rs, rh, fs, w⟩ => by
    have go : ∀ {xs : List D} {a : Addr} {vs : List V}, SqT X.K H a vs → RepL X.K ρ H xs vs → v = .ref a → (Wp X.K E (if xs.length = ts.length then eachT ts xs fr st else .stuck) ρ0 H0 fun fr' _ ρ' H' => ∀ σ', RepF X.K ρ' H' fr' σ' → Off sl σ σ' → Q σ' H') → gTup X.K ts.length (tTgs X.K E sl ts) v σ H Q := fun {xs a vs} t l e w => by
      split at w
      · rename_i hl
        exact ⟨a, vs, e, t, by rw [← l.length]; exact hl, ρ, fr, st, xs, rf, rs, l, hl, w.base g⟩
      · exact w.elim
    unfold tupT at w
    split at w
    · obtain ⟨a, vs, e, t, l⟩ := rh.tup
      exact go t.sq l e w
    · cases rh with
      | kept rh => cases rh with
        | row t l => exact go (t.elim (fun t => .inl (.inl t)) TupX.sq) l rfl w
    · exact w.elim
/-- o[i] = v by values -/
theorem set_setD {ρ : List Addr} {H : Hp} {st1 : Sto} {d k z : D} {ov iv v : V} {Q : Hp → Prop} {P : Sto → List Addr → Hp → Prop} (rs : RepS X.K ρ H st1) (rd : RepH X.K ρ H d ov) (rk : RepH X.K ρ H k iv) (rz : Rep X.K ρ H z v)
    (w : Wp X.K E (setD d k z st1) ρ H fun _ st' ρ' H' => P st' ρ' H') (q : ∀ st' ρ' H', Grow ρ ρ' H H' → P st' ρ' H' → Q H') : rSetL ov iv v H Q := by
  unfold setD at w
  split at w
  · rename_i n j
    split at w
    · rename_i xs hx
      split at w
      · rename_i m hm
        obtain ⟨a, ws, rfl, hn, ha, l⟩ := rs.lstAt rd hx
        have g : Grow ρ ρ H (upd H a (.lst (ws.set m v))) := .put (List.mem_of_getElem? hn) ha
        exact ⟨a, ws, j, m, rfl, rk.int, ha, by rw [← l.length]; exact hm, q _ _ _ g (w _ _ g (rs.putL hn ha (l.set rz m)))⟩
      · exact w.elim
    · exact w.elim
  · exact w.elim
theorem dg_sub {sl : List Nat} (ho : DE X E o fo) (hi : DE X E i fi) (ha : ∀ v, assign (.Subscript o i pos) X.env v = (do
      let ov ← holding [v] (eval o X.env)
      let iv ← holding [v, ov] (eval i X.env)
      standAt pos
      holding [v, ov, iv] (setItem ov iv v)
      release [v, ov, iv] [])) : DG X E sl (.Subscript o i pos) (subT fo fi) :=
  pg_imp (pg_sub ho hi set_list ha) fun v σ H Q ⟨ρ0, H0, ρ, fr, st, d, g, rf, rs, rh, fs, w⟩ => by
    obtain ⟨d', ρ2, st2, g2, y2, s2, r2, w2⟩ := settled w g rs rh fs
    refine tOf.bnd (rf.stay y2) s2 (w2.base g2) fun x ov st3 ρ3 H3 g3 s3 rf3 rh3 f3 w3 => ?_
    refine tOf.bnd rf3 s3 (w3.base g3) fun k iv st4 ρ4 H4 g4 s4 rf4 rh4 f4 w4 => ?_
    have w5 : Wp X.K E ((setD x k d' st4).bnd fun _ => ret fr) ρ4 H4 fun fr' _ ρ' H' => ∀ σ', RepF X.K ρ' H' fr' σ' → Off sl σ σ' → Q σ' H' := w4.base g4
    refine set_setD (P := fun st' ρ' H' => Wp X.K E (ret fr st') ρ4 H4 (fun fr' _ ρ' H' => ∀ σ', RepF X.K ρ' H' fr' σ' → Off sl σ σ' → Q σ' H') ∧ RepS X.K ρ' H' st') s4 (rh3.grow g4) rh4 ((r2.stay g3.stay).stay g4.stay) (w5.bnd.mono fun _ st' ρ' H' g' s' w6 => ⟨w6, s'⟩) fun st' ρ' H' g' ⟨w6, s'⟩ => ?_
    exact w6 ρ' H' g' s' σ (rf4.stay g'.stay) .refl
theorem ds_asg {sl : List Nat} {tg : Expr} {t : Tg} (he : DE X E e fe) (hg : DG X E sl tg t) (hs : swapsWithSole [tg] e pos.line X.env = pure false) (hw : swappedStores [tg] e X.env = pure none) (h1 : (assignEach [tg] X.env).map (·.2) = [assign tg X.env]) : DS X E (.Assign [tg] e pos) (asgS t fe) :=
  ps_imp (ps_asg he hg hs hw h1) fun D σ H ⟨ρ, fr, st, rf, rs, w⟩ => tOf.bnd rf rs w fun d v st1 ρ1 H1 g1 s1 rf1 rh f1 w1 => by
    have w' : Wp X.K E ((t d fr st1).bnd fun fr => ret (.nx fr)) ρ H (FlP X.K H D) := w1
    exact ⟨ρ, H, ρ1, fr, st1, d, g1, rf1, s1, rh, f1, w'.bnd.mono fun fr1 st2 ρ2 H2 g2 s2 w2 σ2 rf2 _ => w2 ρ2 H2 g2 s2 σ2 rf2⟩
theorem ds_set {n : Nat} {pos' : Pos} (hN : X.N.Nodup) (hi : X.N[n]? = some x) (hx : Loc X.env.scope x) (he : DE X E e fe) (hs : swapsWith e (some (.Name x pos')) pos.line X.env = pure false) (hf : X.fn x = true ∨ X.env.scope.names.lookup x = some .local) : DS X E (.Assign [.Name x pos'] e pos) (asgS (setT n) fe) :=
  ps_imp (ps_set hN hi hx he hs hf) fun D σ H ⟨ρ, fr, st, rf, rs, w⟩ => tOf.bnd rf rs w fun d v st1 ρ1 H1 g1 s1 rf1 rh f1 w1 => by
    have w' : Wp X.K E ((setT n d fr st1).bnd fun fr => ret (.nx fr)) ρ H (FlP X.K H D) := w1
    have w'' : Wp X.K E ((settle d st1).bnd fun d => bnd (ret (fr.set n (some d))) fun fr => ret (Fl.nx fr)) ρ H (FlP X.K H D) := by
      have : ((setT n d fr st1).bnd fun fr => ret (Fl.nx fr)) = ((settle d st1).bnd fun d => bnd (ret (fr.set n (some d))) fun fr => ret (Fl.nx fr)) := by
        show ((settle d st1).bnd _).bnd _ = _
        cases settle d st1 <;> rfl
      rw [this] at w'
      exact w'
    obtain ⟨d', ρ2, st2, g2, y2, s2, r2, w2⟩ := settled w'' g1 s1 rh f1
    exact w2 ρ2 H1 g2 s2 _ ((rf1.stay y2).set r2 n)
/-- a, b = x, y with plain local names: the layer stores from the right -/
theorem ds_par {y : Str} {n m : Nat} {px py pt pt2 : Pos} {kt k2 : Nat} (hc : X.calm = true) (hN : X.N.Nodup) (hi : X.N[n]? = some x) (hj : X.N[m]? = some y) (hij : n ≠ m) (hx : X.env.scope.names.lookup x = some .local) (hy : X.env.scope.names.lookup y = some .local)
    (ha : DA X E [a, b] (allS [fa, fb])) (hw : swappedStores [.Tuple [.Name x px, .Name y py] kt pt] (.Tuple [a, b] k2 pt2) X.env = pure (some [x, y])) (hs : swapsWithSole [.Tuple [.Name x px, .Name y py] kt pt] (.Tuple [a, b] k2 pt2) pos.line X.env = pure false) :
    DS X E (.Assign [.Tuple [.Name x px, .Name y py] kt pt] (.Tuple [a, b] k2 pt2) pos) (asgS (tupT [setT n, setT m]) (tupE [fa, fb])) :=
  ps_imp (ps_par hc hN hi hj hij hx hy ha hw hs) fun D σ H ⟨ρ, fr, st, rf, rs, w⟩ => by
    have w' : Wp X.K E ((allS [fa, fb] fr st).bnd fun ds => bnd (tupT [setT n, setT m] (.tup ds) fr) fun fr => ret (.nx fr)) ρ H (FlP X.K H D) := by
      have : (asgS (tupT [setT n, setT m]) (tupE [fa, fb]) fr st) = ((allS [fa, fb] fr st).bnd fun ds => bnd (tupT [setT n, setT m] (.tup ds) fr) fun fr => ret (.nx fr)) := by
        show ((allS [fa, fb] fr st).bnd _).bnd _ = _
        cases allS [fa, fb] fr st <;> rfl
      rw [this] at w
      exact w
    refine tArgs.bnd rf rs w' fun ds vs st1 ρ1 H1 g1 s1 rf1 l w1 => ?_
    have w2 : Wp X.K E ((if ds.length = 2 then eachT [setT n, setT m] ds fr st1 else .stuck).bnd fun fr => ret (.nx fr)) ρ H (FlP X.K H D) := w1
    split at w2
    · rename_i hl
      match ds, hl, l, w2 with
      | [d1, d2], _, .cons r1 (.cons r2 .nil), w2 =>
        have e : (eachT [setT n, setT m] [d1, d2] fr st1) = .ok ((fr.set n (some d1)).set m (some d2)) st1 := by
          show ((settle d1 st1).bnd _).bnd _ = _
          have s1 : settle d1 st1 = .ok d1 st1 := by cases r1 <;> rfl
          have s2 : settle d2 st1 = .ok d2 st1 := by cases r2 <;> rfl
          rw [s1]
          show ((settle d2 st1).bnd _).bnd _ = _
          rw [s2]
          rfl
        rw [e] at w2
        exact ⟨_, _, rfl, w2 ρ1 H1 g1 s1 _ ((rf1.set r1 n).set r2 m)⟩
    · exact w2.elim
theorem ds_aug {n : Nat} {op : Operator} {f : D → D → M D} {pos' : Pos} (hN : X.N.Nodup) (hi : X.N[n]? = some x) (hx : Loc X.env.scope x) (he : DE X E e fe) (ho : OpR X (inplaceOp op) (rOf X.K E f)) (hf : X.fn x = true ∨ X.env.scope.names.lookup x = some .local) : DS X E (.AugAssign (.Name x pos') op e pos) (augS n f fe) :=
  ps_imp (ps_aug (ti := rOf X.K E f) hN hi hx he (fun pins s σ H x y v u Q I r1 r2 h => ho pins s σ H x y v u Q I r1 r2 h) hf) fun D σ H ⟨ρ, fr, st, rf, rs, w⟩ => by
    unfold augS varE at w
    have w0 : Wp X.K E ((match fr[n]? with
      | some (some d) => R.ok d st
      | _ => R.stuck).bnd fun x => bnd (fe fr) fun y => bnd (f x y) fun z => bnd (setT n z fr) fun fr => ret (.nx fr)) ρ H (FlP X.K H D) := w
    split at w0
    · rename_i d e0
      obtain ⟨v, e2, r⟩ := rf.at_ n d e0
      refine ⟨v, e2, ?_⟩
      refine tOf.bnd rf rs w0 fun y u st1 ρ1 H1 g1 s1 rf1 rh f1 w1 => ?_
      have w2 : Wp X.K E ((f d y st1).bnd fun z => bnd (setT n z fr) fun fr => ret (.nx fr)) ρ1 H1 (FlP X.K H1 D) := Wp.reF w1 g1
      refine ⟨ρ1, st1, d, y, s1, .kept (r.stay g1.stay), rh, w2.bnd.mono fun z st2 ρ2 H2 g2 s2 w3 zv rz fz => ?_⟩
      have w'' : Wp X.K E ((settle z st2).bnd fun d => bnd (ret (fr.set n (some d))) fun fr => ret (Fl.nx fr)) ρ1 H1 (FlP X.K H1 D) := by
        have : ((setT n z fr st2).bnd fun fr => ret (Fl.nx fr)) = ((settle z st2).bnd fun d => bnd (ret (fr.set n (some d))) fun fr => ret (Fl.nx fr)) := by
          show ((settle z st2).bnd _).bnd _ = _
          cases settle z st2 <;> rfl
        rw [← this]
        exact w3
      obtain ⟨d', ρ3, st3, g3, y3, s3, r3, w4⟩ := settled w'' g2 s2 rz fz
      exact w4 ρ3 H2 g3 s3 _ (((rf1.stay g2.stay).stay y3).set r3 n)
    · exact w0.elim

/-! ### while -/
theorem ds_while {bs : List Stmt} (n : Nat) (hp : PassesOwn (model X.prog X.w) X.A X.env X.xe) (hc : DT X E c ta) (hb : DSs X E bs s) : DS X E (.While c bs [] pos) (whileS ta s n) :=
  ps_imp (ps_while hp hc hb) fun D σ H ⟨ρ, fr, st, rf, rs, w⟩ => by
    refine ⟨fun m σ' H' => ∃ ρ' fr' st', Grow ρ ρ' H H' ∧ RepF X.K ρ' H' fr' σ' ∧ RepS X.K ρ' H' st' ∧ Wp X.K E (whileS ta s m fr' st') ρ H (FlP X.K H D), ⟨n, ρ, fr, st, .refl, rf, rs, w⟩, ?_⟩
    rintro m σ1 H1 ⟨ρ1, fr1, st1, g1, rf1, s1, w1⟩
    cases m with
    | zero => exact w1.elim
    | succ m =>
      have w2 : Wp X.K E ((ta fr1 st1).bnd fun k => if k then bnd (s fr1) fun f => match f with
        | .nx fr => whileS ta s m fr
        | .bk fr => ret (Fl.nx fr)
        | .rt d => ret (.rt d)
        else ret (Fl.nx fr1)) ρ H (FlP X.K H D) := w1
      refine ⟨ρ1, fr1, st1, rf1, s1, (w2.bnd.base g1).mono fun k st2 ρ2 H2 g2 s2 w3 => ?_⟩
      have rf2 := rf1.stay g2.stay
      cases k with
      | false => exact w3 ρ2 H2 (g1.trans g2) s2 σ1 rf2
      | true =>
        have w4 : Wp X.K E ((s fr1 st2).bnd fun f => match f with
          | .nx fr => whileS ta s m fr
          | .bk fr => ret (Fl.nx fr)
          | .rt d => ret (.rt d)) ρ H (FlP X.K H D) := w3
        refine ⟨fun σ' H' => ∃ ρ' fr' st', Grow ρ ρ' H H' ∧ RepF X.K ρ' H' fr' σ' ∧ RepS X.K ρ' H' st' ∧ Wp X.K E (whileS ta s m fr' st') ρ H (FlP X.K H D), fun σ' H' q => ⟨m, Nat.lt_succ_self m, q⟩, ρ2, fr1, st2, rf2, s2, ?_⟩
        refine (w4.bnd.base (g1.trans g2)).mono fun f st3 ρ3 H3 g3 s3 w5 => ?_
        cases f with
        | nx fr3 => exact fun σ3 rf3 => ⟨ρ3, fr3, st3, (g1.trans g2).trans g3, rf3, s3, w5⟩
        | bk fr3 => exact w5 ρ3 H3 ((g1.trans g2).trans g3) s3
        | rt d => exact fun v rv fv => w5 ρ3 H3 ((g1.trans g2).trans g3) s3 v rv (fv.base (g1.trans g2))
end
end Ev
set_option Elab.async false
set_option linter.all false
set_option maxRecDepth 100000
set_option maxHeartbeats 4000000
/-! Ev, part 11: what loops walk. -/
namespace EvT
open PySem PySem.W PySem.Calls PyProof.Rows L2
open AutoSeq1 (wpAny_loadPart')
theorem meets_enumerate_newT (l : Addr) (items : Array Value) (n : Nat) (dct : Option Addr) (sl : Array (Option Value)) :
    Meets (Builtin.«enumerate.__new__» ⟨[.type "enumerate", .ref l], []⟩) (fun _ R s => s.heap.get? l = some { cls := .type "tuple", dict := dct, data := .seq items n, slots := sl } ∧
      R (.ok (.ret (.ref (s.heap.push { cls := .type "tuple_iterator", data := .fields #[.ref l, .int 0 0] }).objs.size)))
        { s with heap := (s.heap.push { cls := .type "tuple_iterator", data := .fields #[.ref l, .int 0 0] }).push { cls := .type "enumerate", data := .fields #[.none, .bool false, .ref s.heap.objs.size, rawInt 0, .none, .none] } }) :=
  .of_wp fun prog w A R s h => by
    obtain ⟨hp, g, d, tk, os⟩ := s; obtain ⟨hl, h⟩ := h
    have hsub := sub_enumerate
    have hL : Heap.IsTuple (Shared.heap ⟨hp, g, d, tk, os⟩) l items := ⟨_, hl, rfl, n, rfl⟩
    wp_walk using wpAny_loadPart' hl
    refine wpAny_stack_any fun st => wpAny_pure ?_
    split
    · rename_i c _ _ _ _ _
      cases (c == Value.type "enumerate")
      · wp_walk using wpAny_loadPart' hl, wpAny_pyIter_tuple hL
        exact ⟨_, rfl, h⟩
      · wp_walk using wpAny_loadPart' hl, wpAny_pyIter_tuple hL
        exact ⟨_, rfl, h⟩
    · wp_walk using wpAny_loadPart' hl, wpAny_pyIter_tuple hL
      exact ⟨_, rfl, h⟩
section
variable {prog : Program} {w : World} {A : Around} {E : Value → Shared → Prop} {s : Shared}
theorem call_enumerate_tuple {l : Addr} {items : Array Value} {Q : Value → Shared → Prop} (hL : s.heap.IsTuple l items)
    (h : ∀ h', IsEnum h' (s.heap.objs.size + 1) s.heap.objs.size 0 .none → h'.IsTupleIter s.heap.objs.size l 0 → h'.objs.size = s.heap.objs.size + 2 →
      (∀ b o, s.heap.get? b = some o → h'.get? b = some o) → Q (.ref (s.heap.objs.size + 1)) { s with heap := h' }) :
    wpAny (model prog w) A (call (.type "enumerate") [.ref l]) Q E s := by
  obtain ⟨⟨c, dct, dt, sl⟩, hl, hc, n, hd⟩ := hL
  replace hc : c = .type "tuple" := hc
  replace hd : dt = .seq items n := hd
  subst hc hd
  refine callType_new F.called_enumerate (by decide) (F.typeCall_enumerate_1 _) (F.newCall_enumerate_1 _) (fun obj => F.args_object_init_2 obj _) F.entry_enumerate_new
    (meets_enumerate_newT l items n dct sl) ⟨hl, ?_⟩
  have hz : (s.heap.push { cls := .type "tuple_iterator", data := .fields #[.ref l, .int 0 0] }).objs.size = s.heap.objs.size + 1 := Heap.size_push ..
  show _ ∧ _
  rw [hz]
  have he : IsEnum ((s.heap.push { cls := .type "tuple_iterator", data := .fields #[.ref l, .int 0 0] }).push
      { cls := .type "enumerate", data := .fields #[.none, .bool false, .ref s.heap.objs.size, rawInt 0, .none, .none] }) (s.heap.objs.size + 1) s.heap.objs.size 0 .none := by
    have := Heap.get?_push_size (s.heap.push { cls := .type "tuple_iterator", data := .fields #[.ref l, .int 0 0] })
      (o := { cls := .type "enumerate", data := .fields #[.none, .bool false, .ref s.heap.objs.size, rawInt 0, .none, .none] }) rfl
    rw [hz] at this; exact this
  refine ⟨⟨_, he, rfl⟩, h _ he ⟨_, Heap.get?_push_of_some _ (Heap.get?_push_size _ rfl), rfl, rfl⟩ (by rw [Heap.size_push, hz]) fun b o x => Heap.get?_push_of_some _ (Heap.get?_push_of_some _ x)⟩
end
/-- the tuple at a, each item in a new pair -/
def IteT (K : PySem.W.Frag) (a : Addr) : L2.It :=
  ⟨fun i H => ∃ (xs : List V) (x : V), SqT K H a xs ∧ xs[i]? = some x, fun i H v H' => ∃ T x, v = .ref T ∧ H T = none ∧ H' = upd H T (.tup [.int (i : Nat), x]) ∧ ∀ xs, SqT K H a xs → xs[i]? = some x, fun i H => ∃ xs : List V, SqT K H a xs ∧ xs.length = i⟩
theorem turn_enumT {P : Program} {w : World} {K : PySem.W.Frag} {elts : List Expr} {kk : Nat} {tpos : Pos} (a e it : Addr) :
    Turn P w K (.Tuple elts kk tpos) (IteT K a) [e, it] e (fun i h => (∃ old, IsEnum h e it ((i : Nat) : Int) old) ∧ h.IsTupleIter it a i ∧ e ≠ it) where
  mem := by simp
  obj := fun i h st b hb => by
    obtain ⟨⟨old, he⟩, ⟨o, ho, hc, hd⟩, _⟩ := st
    have e' : b = e ∨ b = it := by simpa using hb
    rcases e' with z | z
    · rw [z]; exact ⟨_, he, fun v q => nomatch q⟩
    · rw [z]; exact ⟨o, ho, fun v q => by rw [hd] at q; cases q⟩
  keep := fun i h h' st k => let ⟨⟨old, he⟩, hi, hne⟩ := st; ⟨⟨old, k e (by simp) _ he⟩, hi.at fun o q => k it (by simp) o q, hne⟩
  item := by
    intro X hP hw hK hc i pins s σ H E I hf st hg
    subst hP hw hK
    obtain ⟨⟨old, he⟩, hit, hne⟩ := st
    obtain ⟨xs, x, hq, hx⟩ := hg
    obtain ⟨its, rv, p, hz⟩ := I.tuple hq
    obtain ⟨u, hu, ru⟩ := rv.get hx
    have hel : e < s.heap.objs.size := Heap.lt_size he
    have hil : it < s.heap.objs.size := by obtain ⟨_, q, _⟩ := hit; exact Heap.lt_size q
    have p' : s.heap.IsTuple a its.toArray := p
    have na : a ≠ it := by
      rintro rfl
      obtain ⟨o1, h1, c1, _⟩ := p'
      obtain ⟨o2, h2, c2, _⟩ := hit
      rw [h1] at h2; cases h2; rw [c1] at c2; injection c2 with z; exact absurd z (by decide)
    have ne : e ∉ [it, a] := by
      intro z
      have z' : e = it ∨ e = a := by simpa using z
      rcases z' with z | z
      · exact hne z
      · subst z
        obtain ⟨o1, h1, c1, _⟩ := p'
        have h2 : s.heap.get? e = some _ := he
        rw [h1] at h2; cases h2; injection c1 with z; exact absurd z (by decide)
    have hlt : i < its.toArray.size := by
      rw [List.size_toArray]
      exact (List.getElem?_eq_some_iff.mp hu).1
    refine wpAny_pyNext_enum_itemD (Draws.tuple (A := X.A.in1) (show X.A.in1.handled = none from I.ok.hd hc) it a na its.toArray) he ⟨hit, p'⟩ hlt hne ne fun y h' tk hP ho hit' hT hsz hk => ?_
    have ey : y = u := by
      have h1 : its.toArray[i]? = some y := hP
      have h2 : its.toArray[i]? = some u := by simpa using hu
      rw [h1] at h2
      exact Option.some.inj h2
    subst ey
    refine ⟨_, rfl, wpAny_letOwnedTupleGo_enum (s := { s with heap := h', toks := tk + 1 }) ho fun h'' he' sb => ?_⟩
    have hT2 : h''.get? s.heap.objs.size = some { cls := .type "tuple", data := .seq #[.int i tk, y] } := (sb.2 _ (Nat.ne_of_gt hel)).trans hT
    have new : ObjOk X.prog X.w (upd H s.heap.objs.size (.tup [.int (i : Nat), x])) h'' s.heap.objs.size (.tup [.int (i : Nat), x]) :=
      ⟨by show 2 ≤ sizeLine; decide, [.int i tk, y], .cons ⟨_, rfl⟩ (.cons ru .nil), ⟨_, hT2, rfl, _, rfl⟩⟩
    have I1 : Inv X pins σ (upd H s.heap.objs.size (.tup [.int (i : Nat), x])) { s with heap := h'', toks := tk + 1 } :=
      I.turnedNew (ch := [e, it]) (fun b ob hb q => (sb.2 b (fun z => hb (by simp [z]))).trans (hk b ob (fun z => hb (by simp [z])) (fun z => hb (by simp [z])) q)) hf (Nat.le_refl _) new
    refine ⟨.ref s.heap.objs.size, _, I1, rfl, ⟨_, x, rfl, I.hok.fresh (Nat.le_refl _), rfl, fun ys hy => by rw [I.tuple_inj hy hq]; exact hx⟩, ⟨⟨y, ?_⟩, hit'.1.at fun o q => (sb.2 it (Ne.symm hne)).trans q, hne⟩, fun b hb => ?_⟩
    · have e1 : ((i + 1 : Nat) : Int) = (i : Int) + 1 := by omega
      rw [e1]; exact he'
    · have hb' : b < s.heap.objs.size := by
        have e' : b = e ∨ b = it := by simpa using hb
        rcases e' with z | z
        · rw [z]; exact hel
        · rw [z]; exact hil
      rw [upd_ne (Nat.ne_of_lt hb')]
      exact (hf b hb).1
  done := by
    intro X hP hw hK hc i pins s σ H E I hf st hg
    subst hP hw hK
    obtain ⟨⟨old, he⟩, hit, hne⟩ := st
    obtain ⟨xs, hq, hx⟩ := hg
    obtain ⟨its, rv, p, hz⟩ := I.tuple hq
    obtain ⟨f0, f1, f2, f3, f4, f5⟩ := hf it (by simp)
    have p' : s.heap.IsTuple a its.toArray := p
    have na : a ≠ it := by
      rintro rfl
      obtain ⟨o1, h1, c1, _⟩ := p'
      obtain ⟨o2, h2, c2, _⟩ := hit
      rw [h1] at h2; cases h2; rw [c1] at c2; injection c2 with z; exact absurd z (by decide)
    have hl := rv.length
    have hi : i = its.toArray.size := by rw [List.size_toArray, ← hl, hx]
    subst hi
    exact wpAny_pyNext_enum_endD (Draws.tuple (A := X.A.in1) (show X.A.in1.handled = none from I.ok.hd hc) it a na its.toArray) he ⟨hit, p'⟩ fun h' eb => ⟨rfl, I.turned (t' := s.toks) (fun b o hb q => eb b o hb q) f0 f1 f3 f4 f5⟩
  self := fun A i s Q E st h => let ⟨⟨_, he⟩, _⟩ := st; wpAny_pyIter_enum he h
end EvT
namespace Ev
open PySem PySem.Spec PyProof.Rows L2
/-- J walks these items -/
structure Walks (K : PySem.W.Frag) (J : L2.It) (items : List D) (ρ1 : List Addr) (H1 : Hp) : Prop where
  go : ∀ i ρ H, Grow ρ1 ρ H1 H → i < items.length → J.go i H
  stop : ∀ ρ H, Grow ρ1 ρ H1 H → J.stop items.length H
  yld : ∀ i ρ H st x H', Grow ρ1 ρ H1 H → RepS K ρ H st → i < items.length → J.yld i H x H' → ∃ d, items[i]? = some d ∧ Rep K ρ H' d x ∧ Grow ρ ρ H H' ∧ RepS K ρ H' st
structure LocksOk (X : Cx) (H0 : Hp) (ρ : List Addr) (H : Hp) (ns : List Nat) : Prop where
  nd : ns.Nodup
  at_ : ∀ n ∈ ns, ∃ a od u, ρ[n]? = some a ∧ H a = some (.frz od u) ∧ Mut (some u) ∧ (∀ o' u', X.H_0 a ≠ some (.frz o' u')) ∧ ∀ o' u', H0 a ≠ some (.frz o' u')
def tIt (X : Cx) (E : EK) (it : Ev.It) : TI := fun σ H R => ∃ ρ fr st, RepF X.K ρ H fr σ ∧ RepS X.K ρ H st ∧ Wp X.K E (it fr st) ρ H fun s st1 ρ1 H1 => LocksOk X H ρ1 H1 s.locks → s.items.length ≤ sizeLine → ∀ J, Walks X.K J s.items ρ1 H1 → R J H1
abbrev DI (X : Cx) (E : EK) (tg iter : Expr) (it : Ev.It) : Prop := PI X tg iter (tIt X E it)
section
variable {K : PySem.W.Frag} {ρ ρ1 : List Addr} {H H1 : Hp} {xs : List D} {vs : List V} {a : Addr}
/-- a list that stays, whatever comes -/
def LstS (K : PySem.W.Frag) (ρ : List Addr) (H : Hp) (a : Addr) (vs : List V) : Prop := LstX K ρ H a vs ∨ (∃ o, H a = some (.frz o (.lst vs))) ∨ (a ∉ ρ ∧ H a = some (.lst vs))
theorem LstS.sq (h : LstS K ρ1 H1 a vs) (g : Grow ρ1 ρ H1 H) : SqL K H a vs := by
  rcases h with h | ⟨o, h⟩ | ⟨n, h⟩
  · exact (h.stay g.stay).sq
  · exact .inl (.inr ⟨o, g.frz _ _ _ h⟩)
  · exact .inl (.inl (g.keep _ _ h n))
theorem walks_list (h : LstS K ρ1 H1 a vs) (l : RepL K ρ1 H1 xs vs) : Walks K (Itl K a) xs ρ1 H1 where
  go := fun i ρ H g hi => by
    obtain ⟨v, e, _⟩ := l.get (List.getElem?_eq_getElem hi)
    exact ⟨vs, v, h.sq g, e⟩
  stop := fun ρ H g => ⟨vs, h.sq g, by rw [l.length]; exact Nat.le_refl _⟩
  yld := fun i ρ H st x H' g rs hi ⟨e, y⟩ => by
    subst e
    obtain ⟨v, e, r⟩ := l.get (List.getElem?_eq_getElem hi)
    have e2 := y vs (h.sq g)
    rw [e] at e2
    cases e2
    exact ⟨_, List.getElem?_eq_getElem hi, r.stay g.stay, .refl, rs⟩
theorem walks_tuple (h : TupX K ρ1 H1 a vs) (l : RepL K ρ1 H1 xs vs) : Walks K (Itt K a) xs ρ1 H1 where
  go := fun i ρ H g hi => by
    obtain ⟨v, e, _⟩ := l.get (List.getElem?_eq_getElem hi)
    exact ⟨vs, v, (h.stay g.stay).sq, e⟩
  stop := fun ρ H g => ⟨vs, (h.stay g.stay).sq, by rw [l.length]; exact Nat.le_refl _⟩
  yld := fun i ρ H st x H' g rs hi ⟨e, y⟩ => by
    subst e
    obtain ⟨v, e, r⟩ := l.get (List.getElem?_eq_getElem hi)
    have e2 := y vs (h.stay g.stay).sq
    rw [e] at e2
    cases e2
    exact ⟨_, List.getElem?_eq_getElem hi, r.stay g.stay, .refl, rs⟩
theorem numb_len : ∀ (n : Nat) (xs : List D), (numb n xs).length = xs.length
  | _, [] => rfl
  | n, x :: xs => by simp [numb, numb_len (n + 1) xs]
theorem numb_get : ∀ (n : Nat) (xs : List D) (i : Nat) (x : D), xs[i]? = some x → (numb n xs)[i]? = some (.row [.int (n + i : Nat), x])
  | n, y :: ys, 0, x, h => by simp at h; subst h; simp [numb]
  | n, y :: ys, i + 1, x, h => by
    have := numb_get (n + 1) ys i x (by simpa using h)
    simp only [numb, List.getElem?_cons_succ]
    rw [this]
    congr 5
    omega
  | n, [], i, x, h => by simp at h
theorem walks_enum (h : LstS K ρ1 H1 a vs) (l : RepL K ρ1 H1 xs vs) : Walks K (Ite K a) (numb 0 xs) ρ1 H1 where
  go := fun i ρ H g hi => by
    rw [numb_len] at hi
    obtain ⟨v, e, _⟩ := l.get (List.getElem?_eq_getElem hi)
    exact ⟨vs, v, h.sq g, e⟩
  stop := fun ρ H g => ⟨vs, h.sq g, by rw [numb_len, l.length]; exact Nat.le_refl _⟩
  yld := fun i ρ H st x H' g rs hi ⟨T, z, e1, hT, e2, y⟩ => by
    subst e1 e2
    rw [numb_len] at hi
    obtain ⟨v, e, r⟩ := l.get (List.getElem?_eq_getElem hi)
    have e2 := y vs (h.sq g)
    rw [e] at e2
    have ez : z = v := (Option.some.inj e2).symm
    subst ez
    have n : Grow ρ ρ H (upd H T (.tup [.int (i : Nat), z])) := .new hT
    refine ⟨_, numb_get 0 xs i _ (List.getElem?_eq_getElem hi), .row (.inl upd_same) (.cons ?_ (.cons ((r.stay g.stay).stay n.stay) .nil)), n, rs.new hT⟩
    rw [Nat.zero_add]
    exact .int _
theorem walks_enumT (h : TupX K ρ1 H1 a vs) (l : RepL K ρ1 H1 xs vs) : Walks K (EvT.IteT K a) (numb 0 xs) ρ1 H1 where
  go := fun i ρ H g hi => by
    rw [numb_len] at hi
    obtain ⟨v, e, _⟩ := l.get (List.getElem?_eq_getElem hi)
    exact ⟨vs, v, (h.stay g.stay).sq, e⟩
  stop := fun ρ H g => ⟨vs, (h.stay g.stay).sq, by rw [numb_len, l.length]⟩
  yld := fun i ρ H st x H' g rs hi ⟨T, z, e1, hT, e2, y⟩ => by
    subst e1 e2
    rw [numb_len] at hi
    obtain ⟨v, e, r⟩ := l.get (List.getElem?_eq_getElem hi)
    have e2 := y vs (h.stay g.stay).sq
    rw [e] at e2
    have ez : z = v := (Option.some.inj e2).symm
    subst ez
    have n : Grow ρ ρ H (upd H T (.tup [.int (i : Nat), z])) := .new hT
    refine ⟨_, numb_get 0 xs i _ (List.getElem?_eq_getElem hi), .row (.inl upd_same) (.cons ?_ (.cons ((r.stay g.stay).stay n.stay) .nil)), n, rs.new hT⟩
    rw [Nat.zero_add]
    exact .int _
theorem walks_range {lo : Int} {n : Nat} : Walks K (Itr lo n) ((List.range n).map fun k : Nat => D.int (lo + (k : Int))) ρ1 H1 where
  go := fun i ρ H g hi => by
    show i < n
    simpa using hi
  stop := fun ρ H g => by
    show n ≤ _
    simp
  yld := fun i ρ H st x H' g rs hi ⟨e1, e2⟩ => by
    subst e1 e2
    have hi' : i < n := by simpa using hi
    exact ⟨.int (lo + i), by simp [hi'], .int _, .refl, rs⟩
end
section
variable {X : Cx} {E : EK} {a b c e o i l tg : Expr} {fa fb fc fe fo fi fl : Ex} {pos p2 p p3 apos tpos : Pos} {elts : List Expr} {kk : Nat}
theorem pi_imp {t t' : TI} (h : PI X tg e t) (k : ∀ σ H R, t' σ H R → t σ H R) : PI X tg e t' := ⟨fun pins s σ H R I w => h.run pins s σ H R I (k σ H R w)⟩
/-- what srcOf finds, in the layer's words: the value, the heap with the lock -/
theorem src_of {pins : List (Addr × Obj)} {s : Shared} {σ : L2.St} {H0 H : Hp} {ρ0 ρ : List Addr} {st : Sto} {d : D} {v : V} {P : Src → Sto → List Addr → Hp → Prop} (I : Inv X pins σ H s) (g : Grow ρ0 ρ H0 H) (rs : RepS X.K ρ H st) (rd : RepH X.K ρ H d v)
    (w : Wp X.K E (srcOf d st) ρ0 H0 P) : ∃ (q : Src) (H2 : Hp) (st2 : Sto) (a : Addr) (vs : List V), v = .ref a ∧ Inv X pins σ H2 s ∧ Grow ρ ρ H H2 ∧ LocksOk X H0 ρ H2 q.locks ∧ RepS X.K ρ H2 st2 ∧ RepL X.K ρ H2 q.items vs ∧ P q st2 ρ H2 ∧ (LstS X.K ρ H2 a vs ∨ TupX X.K ρ H2 a vs) := by
  have nol : LocksOk X H0 ρ H [] := ⟨List.nodup_nil, fun n h => nomatch h⟩
  unfold srcOf at w
  split at w
  · rename_i xs
    obtain ⟨a, vs, rfl, t, l⟩ := rd.tup
    exact ⟨⟨xs, []⟩, H, st, a, vs, rfl, I, .refl, nol, rs, l, w ρ H g rs, .inr t⟩
  · rename_i xs
    obtain ⟨a, vs, rfl, n, h, l⟩ := rd.tmpL
    exact ⟨⟨xs, []⟩, H, st, a, vs, rfl, I, .refl, nol, rs, l, w ρ H g rs, .inl (.inr (.inr ⟨n, h⟩))⟩
  · rename_i xs
    cases rd with
    | kept rd => cases rd with
      | frl t l => exact ⟨⟨xs, []⟩, H, st, _, _, rfl, I, .refl, nol, rs, l, w ρ H g rs, .inl (.inl t)⟩
  · rename_i n
    split at w
    · rename_i xs hx
      obtain ⟨a, vs, rfl, hn, ha, l⟩ := rs.lstAt rd hx
      obtain ⟨od, I1⟩ := I.lock ha trivial
      have hm : a ∈ ρ := List.mem_of_getElem? hn
      have g1 : Grow ρ ρ H (upd H a (.frz od (.lst vs))) := .put hm ha
      have s1 : RepS X.K ρ (upd H a (.frz od (.lst vs))) (st.set n (.lck (.lst xs))) := rs.put hn g1.stay ⟨od, _, upd_same, vs, rfl, l.stay g1.stay⟩
      refine ⟨⟨xs, [n]⟩, _, _, a, vs, rfl, I1, g1, ⟨by simp, fun m hm' => ?_⟩, s1, l.stay g1.stay, w ρ _ (g.trans g1) s1, .inl (.inr (.inl ⟨od, upd_same⟩))⟩
      obtain rfl := List.mem_singleton.mp hm'
      refine ⟨a, od, _, hn, upd_same, trivial, I.nofrz ha trivial, fun o' u' z => ?_⟩
      have z2 := g.frz _ _ _ z
      rw [ha] at z2
      cases z2
    · rename_i xs hx
      obtain ⟨a, rfl, hn, od, u, h1, vs, rfl, l⟩ := rd.cellRef rs hx
      exact ⟨⟨xs, []⟩, H, st, a, vs, rfl, I, .refl, nol, rs, l, w ρ H g rs, .inl (.inr (.inl ⟨od, h1⟩))⟩
    · exact w.elim
  · exact w.elim
theorem di_seq (hl : DE X E l fl) : DI X E tg l (seqI fl) := by
  refine ⟨fun pins s σ H R I h => ?_⟩
  obtain ⟨ρ, fr, st, rf, rs, w⟩ := h
  have hv := hl.run pins s σ H (fun v H1 => ∃ d st1 ρ1, Grow ρ ρ1 H H1 ∧ RepS X.K ρ1 H1 st1 ∧ RepH X.K ρ1 H1 d v ∧ Wp X.K E (srcOf d st1) ρ H _) I
    (tOf.bnd rf rs w fun d v st1 ρ1 H1 g1 s1 rf1 rh f1 w1 => ⟨d, st1, ρ1, g1, s1, rh, w1⟩)
  refine thn hv fun v s1 ⟨x, H1, I1, r1, d, st1, ρ1, g1, rs1, rh, w1⟩ => ?_
  obtain ⟨q, H2, st2, a, vs, rfl, I2, g2, lk, rs2, l, k, t⟩ := src_of I1 g1 rs1 rh w1
  cases r1
  rcases t with t | t
  · have hq := t.sq (.refl (ρ := ρ1))
    obtain ⟨its, rv, p, hz⟩ := I2.list hq
    refine wpAny_pyIter_list p.isList ?_
    refine ⟨s1.heap.objs.size, [s1.heap.objs.size], _, _, H2, rfl, I2.kept (t' := s1.toks) fun b o e => Heap.get?_push_of_some _ e, turn_list a _, ⟨_, Heap.get?_push_size _ rfl, rfl, rfl⟩, fun b hb => ?_, k lk (by rw [l.length]; exact hz) _ (walks_list t l)⟩
    have e : b = s1.heap.objs.size := by simpa using hb
    subst e
    exact I2.fpOk (Nat.le_refl _) (I2.hok.fresh (Nat.le_refl _))
  · obtain ⟨its, rv, p, hz⟩ := I2.tuple t.sq
    refine wpAny_pyIter_tuple (show s1.heap.IsTuple a its.toArray from p) ?_
    refine ⟨s1.heap.objs.size, [s1.heap.objs.size], _, _, H2, rfl, I2.kept (t' := s1.toks) fun b o e => Heap.get?_push_of_some _ e, turn_tuple a _, ⟨_, Heap.get?_push_size _ rfl, rfl, rfl⟩, fun b hb => ?_, k lk (by rw [l.length]; exact hz) _ (walks_tuple t l)⟩
    have e : b = s1.heap.objs.size := by simpa using hb
    subst e
    exact I2.fpOk (Nat.le_refl _) (I2.hok.fresh (Nat.le_refl _))
theorem di_enum (hg : Gl X "enumerate") (hm : X.mg "enumerate" = none) (he : DE X E e fe) (hs : starEach [e] X.env = [(false, eval e X.env)]) : DI X E (.Tuple elts kk tpos) (.Call (.Name "enumerate" p) [e] [] pos) (enumI fe) := by
  refine ⟨fun pins s σ H R I h => ?_⟩
  obtain ⟨ρ, fr, st, rf, rs, w⟩ := h
  have w' : Wp X.K E ((fe fr st).bnd fun x => bnd (srcOf x) fun s => ret (⟨numb 0 s.items, s.locks⟩ : Src)) ρ H _ := w
  have hv := (pa_cons he pa_nil hs).run pos pins s σ H (fun vs H1 => ∃ v, vs = [v] ∧ ∃ d st1 ρ1, Grow ρ ρ1 H H1 ∧ RepS X.K ρ1 H1 st1 ∧ RepH X.K ρ1 H1 d v ∧ Wp X.K E (srcOf d st1) ρ H fun s st2 _ _ => Wp X.K E (ret (⟨numb 0 s.items, s.locks⟩ : Src) st2) ρ H fun s st1 ρ1 H1 => LocksOk X H ρ1 H1 s.locks → s.items.length ≤ sizeLine → ∀ J, Walks X.K J s.items ρ1 H1 → R J H1) I
    (tOf.bnd rf rs w' fun d v st1 ρ1 H1 g1 s1 rf1 rh f1 w1 => ⟨v, rfl, d, st1, ρ1, g1, s1, rh, Wp.bnd w1⟩)
  refine Call_ (ld_blt I hg hm boot_enumerate (PyProof.Rows.callWith_type1 (thn hv fun us s1 ⟨vs, H1, I1, r1, v, e0, d, st1, ρ1, g1, rs1, rh, w1⟩ => ?_) hs rfl))
  subst e0
  obtain ⟨u, rfl, ru⟩ := r1.one
  obtain ⟨q, H2, st2, a, ws, rfl, I2, g2, lk, rs2, l, k, t⟩ := src_of I1 g1 rs1 rh w1
  cases ru
  have k' := k ρ1 H2 (g1.trans g2) rs2 lk
  have fin : ∀ {h' : Heap} {J : L2.It} {tn : Nat → Heap → Prop}, (∀ b o, s1.heap.get? b = some o → h'.get? b = some o) → Turn X.prog X.w X.K (.Tuple elts kk tpos) J [s1.heap.objs.size + 1, s1.heap.objs.size] (s1.heap.objs.size + 1) tn → tn 0 h' → R J H2 →
      PIE X pins σ (.Tuple elts kk tpos) R (.ref (s1.heap.objs.size + 1)) { s1 with heap := h' } := fun {h' J tn} hk T st0 r => by
    have I3 : Inv X pins σ H2 { s1 with heap := h' } := I2.kept (t' := s1.toks) hk
    refine ⟨s1.heap.objs.size + 1, [s1.heap.objs.size + 1, s1.heap.objs.size], _, _, H2, rfl, I3, T, st0, fun b hb => ?_, r⟩
    have e' : b = s1.heap.objs.size + 1 ∨ b = s1.heap.objs.size := by simpa using hb
    have hle : s1.heap.objs.size ≤ b := by
      rcases e' with z | z
      · rw [z]; exact Nat.le_add_right _ _
      · rw [z]; exact Nat.le_refl _
    exact I2.fpOk hle (I2.hok.fresh hle)
  rcases t with t | t
  · have hq := t.sq (.refl (ρ := ρ1))
    obtain ⟨its, rv, p', hz⟩ := I2.list hq
    refine call_enumerate_list p'.isList fun h' he hit hsz hk => wpAny_pyIter_enum he ?_
    exact fin hk (turn_enum a _ _) ⟨⟨.none, he⟩, hit, Nat.succ_ne_self _⟩ (k' (by show (numb 0 q.items).length ≤ _; rw [numb_len, l.length]; exact hz) _ (walks_enum t l))
  · obtain ⟨its, rv, p', hz⟩ := I2.tuple t.sq
    refine EvT.call_enumerate_tuple (show s1.heap.IsTuple a its.toArray from p') fun h' he hit hsz hk => wpAny_pyIter_enum he ?_
    exact fin hk (EvT.turn_enumT a _ _) ⟨⟨.none, he⟩, hit, Nat.succ_ne_self _⟩ (k' (by show (numb 0 q.items).length ≤ _; rw [numb_len, l.length]; exact hz) _ (walks_enumT t l))
theorem di_range1 (hg : Gl X "range") (hm : X.mg "range" = none) (ha : DE X E a fa) (hs : starEach [a] X.env = [(false, eval a X.env)]) : DI X E tg (.Call (.Name "range" p) [a] [] pos) (range1I fa) :=
  pi_imp (pi_range1 hg hm (pa_cons ha pa_nil hs) hs) fun σ H R ⟨ρ, fr, st, rf, rs, w⟩ => tOf.bnd rf rs w fun d v st1 ρ1 H1 g1 s1 rf1 rh f1 w1 => by
    cases d with
    | int j =>
      have w2 : Wp X.K E ((if decide (-(2 ^ 62) ≤ j ∧ j < 2 ^ 62) && small j.toNat then ret ⟨(List.range j.toNat).map fun n : Nat => D.int n, []⟩ else stk : M Src) st1) ρ H _ := w1
      split at w2
      · rename_i hb
        obtain ⟨hb, hz⟩ := Bool.and_eq_true_iff.mp hb
        have hb := of_decide_eq_true hb
        have hz : j.toNat ≤ sizeLine := of_decide_eq_true hz
        refine ⟨j, by rw [rh.int], hb.1, hb.2, ?_⟩
        refine w2 ρ1 H1 g1 s1 ⟨List.nodup_nil, fun n h => nomatch h⟩ (by simpa using hz) _ ?_
        have := walks_range (K := X.K) (lo := 0) (n := j.toNat) (ρ1 := ρ1) (H1 := H1)
        simpa using this
      · exact w2.elim
    | _ => exact w1.elim
theorem di_range2 (hg : Gl X "range") (hm : X.mg "range" = none) (ha : DE X E a fa) (hb : DE X E b fb) (hs : starEach [a, b] X.env = [(false, eval a X.env), (false, eval b X.env)]) (hs2 : starEach [b] X.env = [(false, eval b X.env)]) : DI X E tg (.Call (.Name "range" p) [a, b] [] pos) (rangeI fa fb) :=
  pi_imp (pi_range2 hg hm (pa_cons ha (pa_cons hb pa_nil hs2) (by rw [hs, hs2])) hs hs2) fun σ H R ⟨ρ, fr, st, rf, rs, w⟩ => tOf.bnd rf rs w fun d v st1 ρ1 H1 g1 s1 rf1 rh f1 w1 => tOf.bnd rf1 s1 (Wp.base w1 g1) fun e u st2 ρ2 H2 g2 s2 rf2 rh2 f2 w2 => by
    cases d with
    | int i =>
      cases e with
      | int j =>
        have w3 : Wp X.K E ((if decide (-(2 ^ 62) ≤ i ∧ i < 2 ^ 62 ∧ -(2 ^ 62) ≤ j ∧ j < 2 ^ 62) && small (j - i).toNat then ret ⟨(List.range (j - i).toNat).map fun n : Nat => D.int (i + (n : Int)), []⟩ else stk : M Src) st2) ρ1 H1 _ := w2
        split at w3
        · rename_i hb
          obtain ⟨hb, hz⟩ := Bool.and_eq_true_iff.mp hb
          have hb := of_decide_eq_true hb
          have hz : (j - i).toNat ≤ sizeLine := of_decide_eq_true hz
          have e1 := rh.int
          have e2 := rh2.int
          subst e1 e2
          exact ⟨i, j, rfl, hb, w3 ρ2 H2 g2 s2 ⟨List.nodup_nil, fun n h => nomatch h⟩ (by simpa using hz) _ walks_range⟩
        · exact w3.elim
      | _ => exact w2.elim
    | _ => cases e <;> exact w2.elim
end
end Ev
set_option Elab.async false
set_option linter.all false
set_option maxRecDepth 100000
set_option maxHeartbeats 4000000
/-! Ev, part 12: for, comprehensions. -/
namespace Ev
open PySem PySem.Spec PyProof.Rows L2
section
variable {X : Cx} {E : EK} {α β : Type}
theorem RepH.out {K : PySem.W.Frag} {ρ : List Addr} {H H' : Hp} {d : D} {v : V} (h : RepH K ρ H d v) (s : Stay ρ ρ H H') (k : ∀ a, a ∉ ρ → H' a = H a) : RepH K ρ H' d v := by
  cases h with
  | kept h => exact .kept (h.stay s)
  | tmp n hu r => exact .tmp n ((k _ n).trans hu) (r.stay s)
theorem unlock_all {pins : List (Addr × Obj)} {s : Shared} {σ : L2.St} {H0 : Hp} {ρ0 ρ : List Addr} : ∀ (ns : List Nat) {H : Hp} {st : Sto}, Inv X pins σ H s → RepS X.K ρ H st → LocksOk X H0 ρ H ns → Grow ρ0 ρ H0 H →
    ∃ H2, Inv X pins σ H2 s ∧ RepS X.K ρ H2 (unlocks ns st) ∧ Grow ρ0 ρ H0 H2 ∧ Stay ρ ρ H H2 ∧ ∀ a, a ∉ ρ → H2 a = H a
  | [], H, st, I, rs, lk, g => ⟨H, I, rs, g, .refl, fun _ _ => rfl⟩
  | n :: ns, H, st, I, rs, lk, g => by
    obtain ⟨a, od, u, hn, ha, mu, hnf, h0⟩ := lk.at_ n List.mem_cons_self
    have hm : a ∈ ρ := List.mem_of_getElem? hn
    have I1 := I.unlock ha hnf
    have sy : Stay ρ ρ H (upd H a u) := by
      refine ⟨⟨[], by simp⟩, fun b xs e => ?_, fun b o w e hb => ⟨hb, ?_⟩⟩
      · rw [upd_ne (fun z => by rw [z, ha] at e; cases e)]; exact e
      · rw [upd_ne (fun z => hb (by rw [z]; exact hm))]; exact e
    have hnl : n < st.length := by
      rw [← rs.len]
      exact (List.getElem?_eq_some_iff.mp hn).1
    have hc := rs.at_ n _ a (List.getElem?_eq_getElem hnl) hn
    have key : ∃ c, st[n]? = some (.lck c) ∧ RepU X.K ρ H c u := by
      rw [List.getElem?_eq_getElem hnl]
      cases q : st[n] with
      | lck c =>
        rw [q] at hc
        obtain ⟨od', u', h1, h2⟩ := hc
        rw [ha] at h1
        cases h1
        exact ⟨c, rfl, h2⟩
      | lst xs =>
        rw [q] at hc
        obtain ⟨u', h1, vs, rfl, _⟩ := hc
        rw [ha] at h1
        cases h1
      | dct xs =>
        rw [q] at hc
        obtain ⟨u', h1, ps, rfl, _⟩ := hc
        rw [ha] at h1
        cases h1
    obtain ⟨c, ec, rc⟩ := key
    have e1 : unlock1 n st = st.set n c := by unfold unlock1; rw [ec]
    have s1 : RepS X.K ρ (upd H a u) (unlock1 n st) := by
      rw [e1]
      refine rs.put hn sy ?_
      have rc' := rc.stay sy
      cases c with
      | lst xs => exact ⟨u, upd_same, rc'⟩
      | dct xs => exact ⟨u, upd_same, rc'⟩
      | lck xs => exact rc'.elim
    have g1 : Grow ρ0 ρ H0 (upd H a u) := by
      have ne : ∀ b o, H0 b = some o → H b = some o → b ≠ a := fun b o e e2 z => by
        subst z
        rw [ha] at e2
        cases e2
        exact h0 _ _ e
      refine ⟨g.pre, fun b o e n => ?_, fun b xs e => ?_, fun b o w e => ?_, fun b o e => ?_⟩
      · have e2 := g.keep b o e n
        rw [upd_ne (ne b o e e2)]; exact e2
      · have e2 := g.tup b xs e
        rw [upd_ne (ne b _ e e2)]; exact e2
      · have e2 := g.frz b o w e
        rw [upd_ne (ne b _ e e2)]; exact e2
      · by_cases z : b = a
        · subst z; exact ⟨u, upd_same⟩
        · obtain ⟨o', e2⟩ := g.dom b o e
          exact ⟨o', by rw [upd_ne z]; exact e2⟩
    have lk1 : LocksOk X H0 ρ (upd H a u) ns := by
      refine ⟨(List.nodup_cons.mp lk.nd).2, fun m hm2 => ?_⟩
      obtain ⟨b, od2, u2, hn2, hb2, r⟩ := lk.at_ m (List.mem_cons_of_mem _ hm2)
      refine ⟨b, od2, u2, hn2, ?_, r⟩
      rw [upd_ne]
      · exact hb2
      · rintro rfl
        have h1 := List.getElem?_eq_some_iff.mp hn
        have h2 := List.getElem?_eq_some_iff.mp hn2
        obtain ⟨l1, q1⟩ := h1
        obtain ⟨l2, q2⟩ := h2
        have : n = m := (List.getElem_inj rs.nd).mp (q1.trans q2.symm)
        subst this
        exact (List.nodup_cons.mp lk.nd).1 hm2
    obtain ⟨H2, I2, s2, g2, sy2, k2⟩ := unlock_all ns I1 s1 lk1 g1
    exact ⟨H2, I2, s2, g2, sy.trans sy2, fun b hb => (k2 b hb).trans (upd_ne fun z => hb (by rw [z]; exact hm))⟩
/-- a piece under locks, in two -/
theorem Wp.unl {K : PySem.W.Frag} {ρ : List Addr} {H : Hp} {ns : List Nat} {r : R α} {f : α → M β} {P : β → Sto → List Addr → Hp → Prop} (w : Wp K E ((r.bnd f).unl ns) ρ H P) : Wp K E r ρ H fun a st _ _ => Wp K E ((f a st).unl ns) ρ H P := by
  cases r with
  | ok a st => exact fun _ _ _ _ => w
  | exc c d st =>
    cases ns with
    | nil => exact w
    | cons n ns => exact w.elim
  | stuck => exact w
theorem LocksOk.grow {H0 : Hp} {ρ ρ' : List Addr} {H H' : Hp} {ns : List Nat} (l : LocksOk X H0 ρ H ns) (g : Grow ρ ρ' H H') : LocksOk X H0 ρ' H' ns :=
  ⟨l.nd, fun n hn => let ⟨a, od, u, h1, h2, r⟩ := l.at_ n hn; ⟨a, od, u, g.stay.at h1, g.frz _ _ _ h2, r⟩⟩
end
section
variable {X : Cx} {E : EK} {tg iter e : Expr} {body : List Stmt} {it : Ev.It} {t : Tg} {s : S} {pos : Pos}
/-- what stands ahead of the unlocking -/
def Pre (X : Cx) (E : EK) (ρ0 : List Addr) (H0 : Hp) (ns : List Nat) {α : Type} (a : α) (P : α → Sto → List Addr → Hp → Prop) (st : Sto) (ρ : List Addr) (H : Hp) : Prop :=
  LocksOk X H0 ρ H ns ∧ Grow ρ0 ρ H0 H ∧ RepS X.K ρ H st ∧ Wp X.K E ((R.ok a st).unl ns) ρ0 H0 P
theorem ds_for {sl : List Nat} (hp : PassesOwn (model X.prog X.w) X.A X.env X.xe) (hc : X.calm = true) (hi : DI X E tg iter it) (hg : DG X E sl tg t) (hb : DSs X E body s) (hs : ∀ x, foldedSetIterable iter X.env x = pure x) : DS X E (.For tg iter body [] pos) (forS it t s) := by
  refine ⟨fun pins sh σ H D I h => ?_⟩
  obtain ⟨ρ, fr, st, rf, rs, w⟩ := h
  have w' : Wp X.K E ((it fr st).bnd fun q => locked q.locks (loop t s q.items fr)) ρ H (FlP X.K H D) := w
  -- the ends under the locks
  let D' : Ends := { nx := fun σ' H' => ∃ ns fr' st' ρ', RepF X.K ρ' H' fr' σ' ∧ Pre X E ρ H ns (Fl.nx fr') (FlP X.K H D) st' ρ' H', rt := fun v H' => ∃ ns d st' ρ', RepH X.K ρ' H' d v ∧ Fresh H d v ∧ Pre X E ρ H ns (Fl.rt d) (FlP X.K H D) st' ρ' H' }
  have inner : tFor (tIt X E it) (tTg X.K E sl t) (tStm X.K E s) D' σ H := by
    refine ⟨ρ, fr, st, rf, rs, w'.bnd.mono fun q st1 ρ1 H1 g1 s1 w1 lk hz J WJ => ?_⟩
    have rf1 := rf.stay g1.stay
    refine ⟨fun i m σ' H' => m = q.items.length - i ∧ i ≤ q.items.length ∧ ∃ fr' st' ρ', Grow ρ1 ρ' H1 H' ∧ RepS X.K ρ' H' st' ∧ RepF X.K ρ' H' fr' σ' ∧ Wp X.K E ((loop t s (q.items.drop i) fr' st').unl q.locks) ρ H (FlP X.K H D), ⟨_, rfl, Nat.zero_le _, fr, st1, ρ1, .refl, s1, rf1, w1⟩, ?_⟩
    rintro i m σ2 H2 ⟨rfl, hi2, fr2, st2, ρ2, g2, s2, rf2, w2⟩
    by_cases hlt : i < q.items.length
    · refine .inr ⟨WJ.go i ρ2 H2 g2 hlt, fun σ' H' => ∃ fr' st' ρ', Grow ρ1 ρ' H1 H' ∧ RepS X.K ρ' H' st' ∧ RepF X.K ρ' H' fr' σ' ∧ Wp X.K E ((loop t s (q.items.drop (i + 1)) fr' st').unl q.locks) ρ H (FlP X.K H D), fun σ' H' n => ⟨q.items.length - (i + 1), by omega, rfl, hlt, n⟩, fun x H3 y => ?_⟩
      obtain ⟨d, ed, rd, g3, s3⟩ := WJ.yld i ρ2 H2 st2 x H3 g2 s2 hlt y
      have edrop : q.items.drop i = d :: q.items.drop (i + 1) := by
        have e1 := List.drop_eq_getElem_cons hlt
        rw [List.getElem?_eq_getElem hlt] at ed
        cases ed
        exact e1
      rw [edrop] at w2
      have w3 : Wp X.K E (((t d fr2 st2).bnd fun fr => bnd (s fr) fun f => match f with
        | .nx fr => loop t s (q.items.drop (i + 1)) fr
        | .bk fr => ret (Fl.nx fr)
        | .rt d => ret (.rt d)).unl q.locks) ρ H (FlP X.K H D) := w2
      have gg : Grow ρ1 ρ2 H1 H3 := g2.trans g3
      have g03 : Grow ρ ρ2 H H3 := g1.trans gg
      refine ⟨ρ2, H3, ρ2, fr2, st2, d, .refl, rf2.stay g3.stay, s3, .kept rd, Fresh.kept rd, (w3.unl.base g03).mono fun fr4 st4 ρ4 H4 g4 s4 w4 σ4 rf4 _ => ?_⟩
      have w5 : Wp X.K E (((s fr4 st4).bnd fun f => match f with
        | .nx fr => loop t s (q.items.drop (i + 1)) fr
        | .bk fr => ret (Fl.nx fr)
        | .rt d => ret (.rt d)).unl q.locks) ρ H (FlP X.K H D) := w4
      refine ⟨ρ4, fr4, st4, rf4, s4, (w5.unl.base (g03.trans g4)).mono fun f st5 ρ5 H5 g5 s5 w6 => ?_⟩
      have g15 : Grow ρ1 ρ5 H1 H5 := (gg.trans g4).trans g5
      cases f with
      | nx fr5 => exact fun σ5 rf5 => ⟨fr5, st5, ρ5, g15, s5, rf5, w6⟩
      | bk fr5 => exact fun σ5 rf5 => ⟨q.locks, fr5, st5, ρ5, rf5, lk.grow g15, g1.trans g15, s5, w6⟩
      | rt d5 => exact fun v rv fv => ⟨q.locks, d5, st5, ρ5, rv, fv.base (g03.trans g4), lk.grow g15, g1.trans g15, s5, w6⟩
    · have e : i = q.items.length := by omega
      subst e
      rw [List.drop_length] at w2
      exact .inl ⟨WJ.stop ρ2 H2 g2, q.locks, fr2, st2, ρ2, rf2, lk.grow g2, g1.trans g2, s2, w2⟩
  refine thn ((ps_for hp hc hi hg hb hs).run pins sh σ H D' I inner) fun f sh1 r => ?_
  cases f with
  | next =>
    obtain ⟨σ', H', I', ns, fr', st', ρ', rf', lk, g, s', w2⟩ := r
    obtain ⟨H2, I2, s2, g2, sy, k⟩ := unlock_all ns I' s' lk g
    exact ⟨σ', H2, I2, w2 ρ' H2 g2 s2 σ' (rf'.stay sy)⟩
  | brk =>
    obtain ⟨_, _, _, z⟩ := r
    exact z.elim
  | cont =>
    obtain ⟨_, _, _, z⟩ := r
    exact z.elim
  | ret u =>
    obtain ⟨v, σ', H', I', rv, ns, d, st', ρ', rd, fd, lk, g, s', w2⟩ := r
    obtain ⟨H2, I2, s2, g2, sy, k⟩ := unlock_all ns I' s' lk g
    exact ⟨v, σ', H2, I2, rv, w2 ρ' H2 g2 s2 v (rd.out sy k) fd⟩

/-! ### comprehensions -/
theorem RepF.wipe {K : PySem.W.Frag} {ρ : List Addr} {H : Hp} {fr : Fr} {σ : L2.St} (h : RepF K ρ H fr σ) : ∀ own : List Nat, RepF K ρ H (Ev.wipe fr own) (L2.wipe σ own)
  | [] => h
  | v :: vs => by
    have ih := RepF.wipe h vs
    refine ⟨by simp [Ev.wipe, L2.wipe, ih.len], fun i d e => ?_⟩
    have e' : ((Ev.wipe fr vs).set v none)[i]? = some (some d) := e
    show ∃ w, ((L2.wipe σ vs).set v none)[i]? = some (some w) ∧ _
    by_cases hi : i = v
    · subst hi
      rw [List.getElem?_set] at e'
      simp at e'
    · rw [List.getElem?_set_ne (Ne.symm hi)] at e' ⊢
      exact ih.at_ i d e'
theorem wipe_at (σ : L2.St) : ∀ (own : List Nat) (i : Nat), (L2.wipe σ own)[i]? = if i ∈ own ∧ i < σ.length then some none else σ[i]?
  | [], i => by simp [L2.wipe]
  | v :: vs, i => by
    have ih := wipe_at σ vs i
    have hl := L2.wipe_length σ vs
    show ((L2.wipe σ vs).set v none)[i]? = _
    by_cases hi : i = v
    · subst hi
      rw [List.getElem?_set, if_pos rfl, hl]
      by_cases hlt : i < σ.length
      · simp [hlt]
      · simp [hlt]
    · rw [List.getElem?_set_ne (Ne.symm hi), ih]
      simp [hi]
theorem wipe_off {own : List Nat} {σ σ2 : L2.St} (h : Off own (L2.wipe σ own) σ2) : L2.wipe σ2 own = L2.wipe σ own := by
  have hl : σ2.length = σ.length := h.1.trans (L2.wipe_length σ own)
  refine List.ext_getElem? fun i => ?_
  rw [wipe_at, wipe_at, hl]
  by_cases hi : i ∈ own
  · by_cases hlt : i < σ.length
    · simp [hi, hlt]
    · simp only [hlt, and_false, if_false]
      rw [List.getElem?_eq_none (by omega), List.getElem?_eq_none (by omega)]
  · have := h.2 i hi
    rw [wipe_at] at this
    simpa [hi] using this
theorem Wp.unl0 {K : PySem.W.Frag} {E' : EK} {α β : Type} {ρ : List Addr} {H : Hp} {ns : List Nat} {r : R α} {f : α → M β} {g : β → M D} {P : D → Sto → List Addr → Hp → Prop} (w : Wp K E (((r.bnd f).unl0 ns).bnd g) ρ H P) : Wp K E' r ρ H fun a st _ _ => Wp K E (((f a st).unl0 ns).bnd g) ρ H P := by
  cases r with
  | ok a st => exact fun _ _ _ _ => w
  | exc c d st => exact w.elim
  | stuck => exact w.elim
theorem Grow.other {ρ ρ' : List Addr} {H H' : Hp} {a : Addr} {o : HO} (g : Grow ρ ρ' H H') (h : H a = none) : Grow ρ ρ' H (upd H' a o) := by
  have ne : ∀ b u, H b = some u → b ≠ a := fun b u e z => by rw [z, h] at e; cases e
  exact ⟨g.pre, fun b u e n => by rw [upd_ne (ne b u e)]; exact g.keep b u e n, fun b xs e => by rw [upd_ne (ne b _ e)]; exact g.tup b xs e, fun b o u e => by rw [upd_ne (ne b _ e)]; exact g.frz b o u e, fun b u e => by rw [upd_ne (ne b u e)]; exact g.dom b u e⟩
theorem Stay.list {ρ : List Addr} {H : Hp} {a : Addr} {xs : List V} {o : HO} (h : H a = some (.lst xs)) : Stay ρ ρ H (upd H a o) :=
  ⟨⟨[], by simp⟩, fun b ys e => by rw [upd_ne (fun z => by rw [z, h] at e; cases e)]; exact e, fun b o w e n => ⟨n, by rw [upd_ne (fun z => by rw [z, h] at e; cases e)]; exact e⟩⟩
theorem RepS.out2 {K : PySem.W.Frag} {ρ : List Addr} {H H' : Hp} {st : Sto} (s : RepS K ρ H st) (y : Stay ρ ρ H H') (k : ∀ a, a ∈ ρ → H' a = H a) : RepS K ρ H' st :=
  ⟨s.len, s.nd, fun n c a e1 e2 => (s.at_ n c a e1 e2).stay y (k a (List.mem_of_getElem? e2))⟩
/-- what stays outside -/
theorem Grow.outside {ρ ρ' : List Addr} {H H' : Hp} (g : Grow ρ ρ' H H') {a : Addr} {o : HO} (n : a ∉ ρ) (h : H a = some o) : a ∉ ρ' ∧ H' a = some o := by
  obtain ⟨e, q, hn⟩ := g.pre
  refine ⟨fun z => ?_, g.keep a o h n⟩
  rw [q] at z
  rcases List.mem_append.mp z with z | z
  · exact n z
  · rw [hn a z] at h; cases h
abbrev EK0 : EK := fun _ _ _ _ => False
/-- the tests of a comprehension: none, or one -/
def DTs (X : Cx) (es : List Expr) (ts : List Te) : Prop := PTs X es (Ev.tTest X.K EK0 (allT ts))
theorem pts_imp {es : List Expr} {t t' : TT} (h : PTs X es t) (k : ∀ σ H Q, t' σ H Q → t σ H Q) : PTs X es t' := ⟨fun pins s σ H Q I w => h.run pins s σ H Q I (k σ H Q w)⟩
theorem dts_nil : DTs X [] [] := pts_imp pts_nil fun σ H Q ⟨ρ, fr, st, rf, rs, w⟩ => w ρ H .refl rs
theorem dts_one {c : Expr} {tc : Te} (h : DT X EK0 c tc) : DTs X [c] [tc] := pts_imp (pts_one h) fun σ H Q ⟨ρ, fr, st, rf, rs, w⟩ => tTest.bnd rf rs w fun b st1 ρ1 H1 g1 s1 rf1 w1 => by
  cases b with
  | true => exact w1 ρ1 H1 g1 s1
  | false => exact w1 ρ1 H1 g1 s1
/-- a value gets its cell: and what is not it stays outside, and any wider base sees the same -/
theorem settled2 {K : PySem.W.Frag} {ρ ρ1 : List Addr} {H H1 : Hp} {d : D} {v : V} {st : Sto} {f : D → M β} {P : β → Sto → List Addr → Hp → Prop} (h : Wp K E ((settle d st).bnd f) ρ H P) (g : Grow ρ ρ1 H H1) (s : RepS K ρ1 H1 st) (r : RepH K ρ1 H1 d v) (fr : Fresh H d v) :
    ∃ d' ρ2 st2, Grow ρ ρ2 H H1 ∧ Stay ρ1 ρ2 H1 H1 ∧ RepS K ρ2 H1 st2 ∧ Rep K ρ2 H1 d' v ∧ Wp K E (f d' st2) ρ H P ∧ (∀ b, b ∉ ρ1 → (∀ c, d = .tmp c → v ≠ .ref b) → b ∉ ρ2) ∧ ∀ ρ' H', Grow ρ' ρ1 H' H1 → Fresh H' d v → Grow ρ' ρ2 H' H1 := by
  cases r with
  | kept r =>
    refine ⟨d, ρ1, st, g, .refl, s, r, ?_, fun b hb _ => hb, fun ρ' H' g' _ => g'⟩
    cases d with
    | tmp c => cases r
    | _ => exact h
  | @tmp c a u n hu r =>
    have sy : Stay ρ1 (ρ1 ++ [a]) H1 H1 := ⟨⟨[a], rfl⟩, fun _ _ h => h, fun b o w h hn => ⟨fun z => by
      rcases List.mem_append.mp z with z | z
      · exact hn z
      · rw [List.mem_singleton.mp z, hu] at h
        cases h
        cases c with
        | lst xs => obtain ⟨_, e, _⟩ := r; cases e
        | dct xs => obtain ⟨_, e, _⟩ := r; cases e
        | lck xs => exact r, h⟩⟩
    have gg : ∀ ρ' H', Grow ρ' ρ1 H' H1 → Fresh H' (.tmp c) (.ref a) → Grow ρ' (ρ1 ++ [a]) H' H1 := fun ρ' H' g' fr' => by
      have ha : H' a = none := fr' c a rfl rfl
      obtain ⟨e, q, hn⟩ := g'.pre
      refine ⟨⟨e ++ [a], by rw [q, List.append_assoc], fun x hx => ?_⟩, g'.keep, g'.tup, g'.frz, g'.dom⟩
      rcases List.mem_append.mp hx with hx | hx
      · exact hn x hx
      · rw [List.mem_singleton.mp hx]; exact ha
    refine ⟨.ref st.length, ρ1 ++ [a], st ++ [c], gg ρ H g fr, sy, ?_, .ref ?_, h, fun b hb k z => ?_, gg⟩
    · refine ⟨by simp [s.len], ?_, fun n' c' a' e1 e2 => ?_⟩
      · exact List.nodup_append.mpr ⟨s.nd, by simp, fun x hx y hy => by rw [List.mem_singleton.mp hy]; rintro rfl; exact n hx⟩
      · by_cases hl : n' < st.length
        · rw [List.getElem?_append_left hl] at e1
          rw [List.getElem?_append_left (by rw [s.len]; exact hl)] at e2
          exact (s.at_ n' c' a' e1 e2).stay sy rfl
        · have hn : n' = st.length := by
            by_cases q : n' = st.length
            · exact q
            · rw [List.getElem?_eq_none (by simp; omega)] at e1; cases e1
          subst hn
          rw [List.getElem?_append_right (Nat.le_refl _), Nat.sub_self] at e1
          rw [← s.len, List.getElem?_append_right (Nat.le_refl _), Nat.sub_self] at e2
          cases e1
          cases e2
          have r' := r.stay sy
          cases c with
          | lst xs => exact ⟨u, hu, r'⟩
          | dct xs => exact ⟨u, hu, r'⟩
          | lck xs => exact r'.elim
    · rw [← s.len, List.getElem?_append_right (Nat.le_refl _), Nat.sub_self]; rfl
    · rcases List.mem_append.mp z with z | z
      · exact hb z
      · exact k c rfl (by rw [List.mem_singleton.mp z])
theorem lc_inner {elt : Expr} {ifs : List Expr} {own : List Nat} {ts : List Te} {fe : Ex} {σ : L2.St} {H : Hp} {Q : D → V → Sto → List Addr → Hp → Prop} {ρ : List Addr} {fr : Fr} {st : Sto} (rf : RepF X.K ρ H fr σ) (rs : RepS X.K ρ H st)
    (w : Wp X.K E (lcE own it t ts fe fr st) ρ H (Pd X.K H Q)) :
    ∀ QQ : VK, (∀ v H', (∃ ns d st' ρ', RepH X.K ρ' H' (.tmp (.lst d)) v ∧ Fresh H (.tmp (.lst d)) v ∧ LocksOk X H ρ' H' ns ∧ Grow ρ ρ' H H' ∧ RepS X.K ρ' H' st' ∧ Wp X.K E (.ok (.tmp (.lst d)) (unlocks ns st')) ρ H (Pd X.K H Q)) → QQ v H') →
    tLc (tIt X E it) (tTg X.K EK0 own t) (Ev.tTest X.K EK0 (allT ts)) (tOf X.K EK0 fe) own σ H QQ := by
  intro QQ kk
  have w' : Wp X.K E ((it fr st).bnd fun q => bnd (locked0 q.locks (lcLoop t ts fe (Ev.wipe fr own) q.items [])) fun ds => (ret (Ev.D.tmp (Cell.lst ds)) : M Ev.D)) ρ H (Pd X.K H Q) := w
  refine ⟨ρ, fr, st, rf, rs, w'.bnd.mono fun q st1 ρ1 H1 g1 s1 w1 lk hz J WJ D hD => ?_⟩
  have rfw : RepF X.K ρ1 H1 (Ev.wipe fr own) (L2.wipe σ own) := (rf.stay g1.stay).wipe own
  have nD : D ∉ ρ1 := s1.out hD
  refine ⟨fun i m H' => m = q.items.length - i ∧ i ≤ q.items.length ∧ ∃ st' ρ' acc vs, Grow ρ1 ρ' H1 H' ∧ RepS X.K ρ' H' st' ∧ D ∉ ρ' ∧ H' D = some (.lst vs) ∧ RepL X.K ρ' H' acc vs ∧ acc.length ≤ i ∧
    Wp X.K E (((lcLoop t ts fe (Ev.wipe fr own) (q.items.drop i) acc st').unl0 q.locks).bnd (β := Ev.D) fun ds => (ret (Ev.D.tmp (Cell.lst ds)) : M Ev.D)) ρ H (Pd X.K H Q), ⟨_, rfl, Nat.zero_le _, st1, ρ1, [], [], .new hD, s1.new hD, nD, upd_same, .nil, Nat.le_refl _, w1⟩, ?_⟩
  rintro i m H2 ⟨rfl, hi, st2, ρ2, acc, vs, g2, s2, n2, h2, l2, ha, w2⟩
  by_cases hlt : i < q.items.length
  · refine .inr ⟨WJ.go i ρ2 H2 g2 hlt, fun H' => ∃ st' ρ' acc vs, Grow ρ1 ρ' H1 H' ∧ RepS X.K ρ' H' st' ∧ D ∉ ρ' ∧ H' D = some (.lst vs) ∧ RepL X.K ρ' H' acc vs ∧ acc.length ≤ i + 1 ∧
      Wp X.K E (((lcLoop t ts fe (Ev.wipe fr own) (q.items.drop (i + 1)) acc st').unl0 q.locks).bnd (β := Ev.D) fun ds => (ret (Ev.D.tmp (Cell.lst ds)) : M Ev.D)) ρ H (Pd X.K H Q), fun H' n => ⟨q.items.length - (i + 1), by omega, rfl, hlt, n⟩, fun x H3 y => ?_⟩
    obtain ⟨d, ed, rd, g3, s3⟩ := WJ.yld i ρ2 H2 st2 x H3 g2 s2 hlt y
    have edrop : q.items.drop i = d :: q.items.drop (i + 1) := by
      have e1 := List.drop_eq_getElem_cons hlt
      rw [List.getElem?_eq_getElem hlt] at ed
      cases ed
      exact e1
    rw [edrop] at w2
    have gg : Grow ρ1 ρ2 H1 H3 := g2.trans g3
    have g03 : Grow ρ ρ2 H H3 := g1.trans gg
    have w3 : Wp X.K E ((((t d (Ev.wipe fr own) st2).bnd fun fr1 => bnd (allT ts fr1) fun b => if b then bnd (fe fr1) fun d => bnd (settle d) fun d => lcLoop t ts fe (Ev.wipe fr own) (q.items.drop (i + 1)) (acc ++ [d]) else lcLoop t ts fe (Ev.wipe fr own) (q.items.drop (i + 1)) acc).unl0 q.locks).bnd (β := Ev.D) fun ds => (ret (Ev.D.tmp (Cell.lst ds)) : M Ev.D)) ρ H (Pd X.K H Q) := w2
    have h3 : H3 D = some (.lst vs) := g3.keep D _ h2 n2
    refine ⟨ρ2, H3, ρ2, Ev.wipe fr own, st2, d, .refl, rfw.stay gg.stay, s3, .kept rd, Fresh.kept rd, ((Wp.unl0 (E' := EK0) w3).base g03).mono fun fr4 st4 ρ4 H4 g4 s4 w4 σ4 rf4 of4 => ?_⟩
    refine ⟨wipe_off of4, ?_⟩
    have w5 : Wp X.K E ((((allT ts fr4 st4).bnd fun b => if b then bnd (fe fr4) fun d => bnd (settle d) fun d => lcLoop t ts fe (Ev.wipe fr own) (q.items.drop (i + 1)) (acc ++ [d]) else lcLoop t ts fe (Ev.wipe fr own) (q.items.drop (i + 1)) acc).unl0 q.locks).bnd (β := Ev.D) fun ds => (ret (Ev.D.tmp (Cell.lst ds)) : M Ev.D)) ρ H (Pd X.K H Q) := w4
    obtain ⟨n4, h4⟩ := g4.outside n2 h3
    refine ⟨ρ4, fr4, st4, rf4, s4, ((Wp.unl0 (E' := EK0) w5).base (g03.trans g4)).mono fun b st5 ρ5 H5 g5 s5 w6 => ?_⟩
    obtain ⟨n5, h5⟩ := g5.outside n4 h4
    have g35 : Grow ρ2 ρ5 H3 H5 := g4.trans g5
    have g15 : Grow ρ1 ρ5 H1 H5 := gg.trans g35
    have l5 : RepL X.K ρ5 H5 acc vs := (l2.stay g3.stay).stay g35.stay
    cases b with
    | false => exact ⟨st5, ρ5, acc, vs, g15, s5, n5, h5, l5, Nat.le_succ_of_le ha, w6⟩
    | true =>
      rw [if_pos rfl]
      have w7 : Wp X.K E ((((fe fr4 st5).bnd fun d => bnd (settle d) fun d => lcLoop t ts fe (Ev.wipe fr own) (q.items.drop (i + 1)) (acc ++ [d])).unl0 q.locks).bnd (β := Ev.D) fun ds => (ret (Ev.D.tmp (Cell.lst ds)) : M Ev.D)) ρ H (Pd X.K H Q) := w6
      refine ⟨ρ5, fr4, st5, rf4.stay g5.stay, s5, ((Wp.unl0 (E' := EK0) w7).base (g1.trans g15)).mono fun z st6 ρ6 H6 g6 s6 w8 zv rz fz => ?_⟩
      obtain ⟨n6, h6⟩ := g6.outside n5 h5
      have w9 : Wp X.K E ((((settle z st6).bnd fun d => lcLoop t ts fe (Ev.wipe fr own) (q.items.drop (i + 1)) (acc ++ [d])).unl0 q.locks).bnd (β := Ev.D) fun ds => (ret (Ev.D.tmp (Cell.lst ds)) : M Ev.D)) ρ H (Pd X.K H Q) := w8
      have fz' : Fresh H z zv := fz.base (g1.trans g15)
      have w10 : Wp X.K E ((settle z st6).bnd fun d => (fun st => ((lcLoop t ts fe (Ev.wipe fr own) (q.items.drop (i + 1)) (acc ++ [d]) st).unl0 q.locks).bnd (β := Ev.D) fun ds => (ret (Ev.D.tmp (Cell.lst ds)) : M Ev.D))) ρ H (Pd X.K H Q) := by
        have : (((settle z st6).bnd fun d => lcLoop t ts fe (Ev.wipe fr own) (q.items.drop (i + 1)) (acc ++ [d])).unl0 q.locks).bnd (fun ds => (ret (Ev.D.tmp (Cell.lst ds)) : M Ev.D)) = (settle z st6).bnd fun d => (fun st => ((lcLoop t ts fe (Ev.wipe fr own) (q.items.drop (i + 1)) (acc ++ [d]) st).unl0 q.locks).bnd (β := Ev.D) fun ds => (ret (Ev.D.tmp (Cell.lst ds)) : M Ev.D)) := by
          cases z <;> rfl
        rw [← this]
        exact w9
      have nzD : ∀ c a, z = .tmp c → zv = .ref a → a ≠ D := fun c a e1 e2 e3 => by
        have := fz c a e1 e2
        rw [e3, h5] at this
        cases this
      obtain ⟨z', ρ7, st7, g7, y7, s7, r7, w11, no7, gr7⟩ := settled2 w10 ((g1.trans g15).trans g6) s6 rz fz'
      have n7 : D ∉ ρ7 := no7 D n6 fun c e1 e2 => nzD c D e1 e2 rfl
      have fz1 : Fresh H1 z zv := fz.base g15
      have g17 : Grow ρ1 ρ7 H1 H6 := gr7 ρ1 H1 (g15.trans g6) fz1
      have sl : Stay ρ7 ρ7 H6 (upd H6 D (.lst (vs ++ [zv]))) := Stay.list h6
      refine ⟨vs, h6, by rw [← l5.length]; have := hlt; omega, st7, ρ7, acc ++ [z'], vs ++ [zv], g17.other hD, s7.out2 sl (fun a ha => upd_ne fun e => n7 (by rw [← e]; exact ha)), n7, upd_same, ?_, by simp; exact ha, w11⟩
      exact (((l5.stay g6.stay).stay y7).append (.cons r7 .nil)).stay sl
  · have e : i = q.items.length := by omega
    subst e
    rw [List.drop_length] at w2
    exact .inl ⟨WJ.stop ρ2 H2 g2, kk _ _ ⟨q.locks, acc, st2, ρ2, RepH.tmp n2 h2 ⟨vs, rfl, l2⟩, fun c a _ e => by cases e; exact g1.free hD, lk.grow g2, g1.trans g2, s2, w2⟩⟩
end
end Ev
set_option Elab.async false
set_option linter.all false
set_option maxRecDepth 100000
set_option maxHeartbeats 4000000
/-! Ev, part 13: list comprehensions as values and as what is stored. -/
namespace Ev
open PySem PySem.Spec PyProof.Rows L2
section
variable {X : Cx} {E : EK} {elt tg iter : Expr} {ifs : List Expr} {scope : Scope} {own : List (Str × Nat)} {pos : Pos} {it : Ev.It} {t : Tg} {ts : List Te} {fe : Ex}
/-- what holds in each block context of a comprehension -/
abbrev InBlk (X : Cx) (scope : Scope) (P : Cx → Prop) : Prop := ∀ (s : Shared) (H : Hp) (C : Addr) (cl : List (Str × Addr)) (fp : List Addr), P (X.blk s H scope (compEnvC scope cl C X.env) fp)
theorem de_lc (hc : X.calm = true) (hN : X.N.Nodup) (hi : DI X E tg iter it) (ok : BlkOk X.N X.env.scope scope own) (hg : InBlk X scope fun Y => DG Y EK0 (own.map (·.2)) tg t) (ht : InBlk X scope fun Y => DTs Y ifs ts) (he : InBlk X scope fun Y => DE Y EK0 elt fe) (hs : ∀ x, foldedSetIterable iter X.env x = pure x) :
    DE X E (.ListComp elt [⟨tg, iter, ifs, 0⟩] scope pos) (lcE (own.map (·.2)) it t ts fe) := by
  refine ⟨fun pins s σ H Q I h => ?_⟩
  obtain ⟨ρ, fr, st, rf, rs, w⟩ := h
  refine thn ((pe_lc (pos := pos) (g := tTg X.K EK0 (own.map (·.2)) t) (tt := Ev.tTest X.K EK0 (allT ts)) (te := tOf X.K EK0 fe) hc hN hi ok hg (fun s H C cl fp => show PTs _ ifs (Ev.tTest X.K EK0 (allT ts)) from ht s H C cl fp) he hs).run pins s σ H _ I (lc_inner (elt := elt) (ifs := ifs) rf rs w _ fun _ _ q => q)) fun x s1 r => ?_
  obtain ⟨v, H', I', rv, ns, d, st', ρ', rd, fd, lk, g, s', w2⟩ := r
  obtain ⟨H2, I2, s2, g2, sy, k⟩ := unlock_all ns I' s' lk g
  exact ⟨v, H2, I2, rv, w2 ρ' H2 g2 s2 v (rd.out sy k) fd⟩
theorem ds_setLc {i : Nat} {y : Str} {py spos : Pos} (hc : X.calm = true) (hN : X.N.Nodup) (hy : X.N[i]? = some y) (hyl : X.env.scope.names.lookup y = some .local)
    (hsw : swapsWith (.ListComp elt [⟨tg, iter, ifs, 0⟩] scope pos) (some (.Name y py)) spos.line X.env = pure true) (hi : DI X E tg iter it) (ok : BlkOk X.N X.env.scope scope own) (hg : InBlk X scope fun Y => DG Y EK0 (own.map (·.2)) tg t) (ht : InBlk X scope fun Y => DTs Y ifs ts) (he : InBlk X scope fun Y => DE Y EK0 elt fe) (hs : ∀ x, foldedSetIterable iter X.env x = pure x) :
    DS X E (.Assign [.Name y py] (.ListComp elt [⟨tg, iter, ifs, 0⟩] scope pos) spos) (asgS (setT i) (lcE (own.map (·.2)) it t ts fe)) := by
  refine ⟨fun pins s σ H D I h => ?_⟩
  obtain ⟨ρ, fr, st, rf, rs, w⟩ := h
  have w0 : Wp X.K E ((lcE (own.map (·.2)) it t ts fe fr st).bnd fun d => bnd (setT i d fr) fun fr => ret (.nx fr)) ρ H (FlP X.K H D) := w
  have w1 : Wp X.K E (lcE (own.map (·.2)) it t ts fe fr st) ρ H (Pd X.K H fun d v st1 ρ1 H1 => Wp X.K E ((setT i d fr st1).bnd fun fr => ret (.nx fr)) ρ H (FlP X.K H D)) := by
    refine w0.bnd.mono fun d st1 ρ1 H1 g1 s1 w1 v rv fv => w1
  let D' : Ends := { D with nx := fun σ' H' => ∃ v ns d st' ρ', σ' = σ.set i (some v) ∧ RepH X.K ρ' H' (.tmp (.lst d)) v ∧ Fresh H (.tmp (.lst d)) v ∧ LocksOk X H ρ' H' ns ∧ Grow ρ ρ' H H' ∧ RepS X.K ρ' H' st' ∧ Wp X.K E (.ok (.tmp (.lst d)) (unlocks ns st')) ρ H (Pd X.K H fun d v st1 ρ1 H1 => Wp X.K E ((setT i d fr st1).bnd fun fr => ret (.nx fr)) ρ H (FlP X.K H D)) }
  have inner : tAsg (tLc (tIt X E it) (tTg X.K EK0 (own.map (·.2)) t) (Ev.tTest X.K EK0 (allT ts)) (tOf X.K EK0 fe) (own.map (·.2))) (gName i) D' σ H := by
    exact lc_inner (X := X) (E := E) (elt := elt) (ifs := ifs) rf rs w1 _ fun v H' ⟨ns, d, st', ρ', q⟩ => ⟨v, ns, d, st', ρ', rfl, q⟩
  refine thn ((ps_setLc (g := tTg X.K EK0 (own.map (·.2)) t) (tt := Ev.tTest X.K EK0 (allT ts)) (te := tOf X.K EK0 fe) hc hN hy hyl hsw hi ok hg (fun s H C cl fp => show PTs _ ifs (Ev.tTest X.K EK0 (allT ts)) from ht s H C cl fp) he hs).run pins s σ H D' I inner) fun f s1 r => ?_
  cases f with
  | next =>
    obtain ⟨σ', H', I', v, ns, d, st', ρ', rfl, rd, fd, lk, g, s', w2⟩ := r
    obtain ⟨H2, I2, s2, g2, sy, k⟩ := unlock_all ns I' s' lk g
    have w3 := w2 ρ' H2 g2 s2 v (rd.out sy k) fd
    have w'' : Wp X.K E ((settle (.tmp (.lst d)) (unlocks ns st')).bnd fun d => bnd (ret (fr.set i (some d))) fun fr => ret (Fl.nx fr)) ρ H (FlP X.K H D) := w3
    obtain ⟨d', ρ2, st2, g3, y2, s3, r2, w4⟩ := settled w'' g2 s2 (rd.out sy k) fd
    exact ⟨_, H2, I2, w4 ρ2 H2 g3 s3 _ (((rf.stay g2.stay).stay y2).set r2 i)⟩
  | brk => exact r
  | cont => exact r
  | ret u => exact r
end
end Ev
set_option Elab.async false
set_option linter.all false
set_option maxRecDepth 100000
set_option maxHeartbeats 4000000
/-! Ev, part 14: what a def promises where no repr is going on (no guard stands): its body, its calls, the law's call. -/
namespace Ev
open PySem PySem.Spec PyProof.Rows L2
/-- a def's promise, for callers outside of any repr -/
structure FnG (P : Program) (w : World) (K : PySem.W.Frag) (mg : Str → Option Value) (base : Heap) (CX : CXT) (k : Nat) (f : Addr) (fd : FuncData) (ps : List Str) (sp : Sp) : Prop where
  arity : ∀ vs H Q E, sp vs H Q E → vs.length = ps.length
  go : ∀ (A : Around) (l : List Env) (s : Shared) (H : Hp) (args : Args) (us : List Value) (vs : List V) (Q : VK) (E : XK), Room k A ∧ A.guards = some [] →
    Env0 P w K mg base A l s H → BindsTo s fd args (ps.zip us) → Vals vs us → sp vs H Q E → codeAny (model P w) A (.call (.ref f) args) (CR CX l P w H s Q E) s
section
variable {P : Program} {w : World} {K : PySem.W.Frag} {mg : Str → Option Value} {base : Heap} {CX : CXT} {k : Nat} {f : Addr} {fd : FuncData} {N ps : List Str} {sp : Sp} {x qual : Str} {params : Arguments} {body : List Stmt} {scope : Scope} {dvs : List V} {kws : List (Str × V)}
theorem fnG_of (F : FunD K x qual params body scope dvs kws f fd) (S : FnScope N ps scope) (ar : ∀ vs H Q E, sp vs H Q E → vs.length = ps.length)
    (hb : ∀ (cd : Value) (A : Around) (l : List Env) (s : Shared) (H : Hp) (vs : List V) (Q : VK) (E : XK), Room k (A.deeper (envOfC qual scope s.heap.objs.size f cd)) → A.guards = some [] → sp vs H Q E →
      ∃ t, PSs (cxOf CX P w K mg base N qual scope f cd A l s H E) body t ∧ t { nx := fun _ H' => Q .non H', rt := Q } (L2.start N vs) H) : FnG P w K mg base CX (k + 1) f fd ps sp := by
  obtain ⟨oc, od, dV, kV, doc, pm, an, cd, ct, osl, hfd, lk, hcd, _, _⟩ := F.ex
  subst hfd
  constructor
  · exact ar
  · intro A l s H args us vs Q E ⟨room, hg⟩ e0 bd rv hsp
    have KH : K.In s.heap := e0.mod.kin.keeps fun b o e => (e0.bs b o e).1
    have nl : s.heap.NoLimit := e0.mod.nolimit.keeps fun b o e => (e0.bs b o e).1
    have kinds : ∀ y ∈ ps.zip us, scope.names.lookup y.1 = some .local ∨ (scope.names.lookup y.1 = some .cell ∧ ((cellsFrom (s.heap.objs.size + 1) scope.names []).lookup y.1).isSome = true) := by
      intro y hy
      have hm := S.par y.1 (List.of_mem_zip (show (y.1, y.2) ∈ _ from hy)).1
      exact hm.imp id fun q => ⟨q, PySem.W.cellsFrom_some _ _ _ (.inl q)⟩
    apply codeAny_call_function room.depth (KH _ _ lk) rfl S.co S.gen rfl (PySem.W.codeRec_of KH hcd)
    apply bd
    apply wpAny_newFunctionEnv_cells S.kind kinds
    intro env he s1 inC
    subst he
    refine ⟨nl.keeps inC.toInCall.keep, ?_⟩
    apply codeAny_func
    obtain ⟨t, ht, hq⟩ := hb cd A l s H vs Q E (room.deeper _) hg hsp
    have J := ht.run [] s1 (L2.start N vs) H _ (inv_start S room.hd e0 (ar _ _ _ _ hsp) rv inC) hq
    refine wpAny_mono J ?_ fun _ _ z => z
    intro fl s' hs
    cases fl with
    | next =>
      obtain ⟨σ1, H1, I1, q1⟩ := hs
      exact ⟨V.non, H1, I1.os, I1.bare, I1.base, I1.hok, rfl, q1⟩
    | ret u =>
      obtain ⟨v, σ1, H1, I1, r1, q1⟩ := hs
      exact ⟨v, H1, I1.os, I1.bare, I1.base, I1.hok, r1, q1⟩
    | brk =>
      obtain ⟨_, _, _, z⟩ := hs
      cases z
    | cont =>
      obtain ⟨_, _, _, z⟩ := hs
      cases z
theorem FnG.le {j : Nat} (F : FnG P w K mg base CX j f fd ps sp) (h : j ≤ k) : FnG P w K mg base CX k f fd ps sp := ⟨F.arity, fun A l s H args us vs Q E hr => F.go A l s H args us vs Q E ⟨hr.1.mono h, hr.2⟩⟩
end
section
variable {X : Cx} {CX : CXT} {k : Nat} {f : Addr} {fd : FuncData} {ps : List Str} {sp : Sp} {dvs : List V} {ds : List Value} {E : XK} {x : Str} {p pos : Pos} {e : Expr} {es : List Expr} {t : TA}
theorem goG {pins : List (Addr × Obj)} {σ : L2.St} {H : Hp} {s : Shared} {Q : VK} {us : List Value} {vs : List V} (F : FnG X.prog X.w X.K X.mg X.base CX k f fd ps sp) (hr : Room k X.A ∧ X.A.guards = some []) (hb : Binds X.K fd ps ds) (hd : Vals dvs ds) (hx : Passes CX X E)
    (I : Inv X pins σ H s) (r : Vals vs us) (h : sp (vs ++ dvs) H Q E) : wpAny (model X.prog X.w) X.A (call (.ref f) us) (EP X pins σ Q) X.xe s := by
  have r2 := r.append hd
  apply wpAny_call
  refine codeAny_mono (F.go X.A X.stack s H ⟨us, []⟩ (us ++ ds) (vs ++ dvs) Q E hr I.env0 (hb s us I.kIn ?_) r2 h) ?_
  · rw [← r2.length, F.arity _ _ _ _ h]
  · intro r s' hq
    match r, hq with
    | .error e, hq => exact hx pins σ H s e s' I hq
    | .ok (.ret u), hq => exact I.after hq
    | .ok .next, hq => cases hq
    | .ok .brk, hq => cases hq
    | .ok .cont, hq => cases hq
theorem pe_callG (F : FnG X.prog X.w X.K X.mg X.base CX k f fd ps sp) (hr : Room k X.A ∧ X.A.guards = some []) (hg : Gl X x) (hm : X.mg x = some (.ref f)) (hk : PySem.W.keepIn X.K (.ref f) = true) (hb : Binds X.K fd ps ds) (hd : Vals dvs ds) (hx : Passes CX X E)
    (ha : PA X (e :: es) t) (hdb : (x == ("__debug__" : Str)) = false) (he : starEach (e :: es) X.env = (false, eval e X.env) :: starEach es X.env) (hpl : (backTo pos (starEach es X.env)).any (·.1) = false) : PE X (.Call (.Name x p) (e :: es) [] pos) (tCall sp dvs E t) := by
  constructor
  intro pins s σ H Q I h
  apply wpAny_Call_Name_kw
  apply ld_glob I hg hm _ hdb
  apply PySem.W.callWith_K (h₀ := X.base) I.ok.mod.kin hk _ he hpl
  refine thn (ha.run pos pins s σ H _ I h) ?_
  rintro us s1 ⟨vs, H1, I1, r, q⟩
  exact ⟨I1.kIn, goG F hr hb hd hx I1 r q⟩
theorem pe_callG0 (F : FnG X.prog X.w X.K X.mg X.base CX k f fd ps sp) (hr : Room k X.A ∧ X.A.guards = some []) (hg : Gl X x) (hm : X.mg x = some (.ref f)) (hk : PySem.W.keepIn X.K (.ref f) = true) (hb : Binds X.K fd ps ds) (hd : Vals dvs ds) (hx : Passes CX X E)
    (hdb : (x == ("__debug__" : Str)) = false) : PE X (.Call (.Name x p) [] [] pos) (tCall sp dvs E tNil) := by
  constructor
  intro pins s σ H Q I h
  apply wpAny_Call_Name_kw
  apply ld_glob I hg hm _ hdb
  exact PySem.W.callWith_K0 I.kIn hk (goG (us := []) F hr hb hd hx I .nil h)
end
/-- the law's call, at the heap behind the top -/
theorem lawG {P : Program} {w : World} {K : PySem.W.Frag} {mg mb : Str → Option Value} {CX : CXT} {k : Nat} {fa a : Addr} {fd : FuncData} {x : Str} {sp : Sp} {s : Shared} {vs : List Value} {ns : List Int}
    (KX : K.In s.heap) (hns : s.heap.Ns mainGlobals mg) (hb : s.heap.Ns builtinsNs mb) (hbb : ∀ x : Str, x ≠ "__name__" → mb x = bootBuiltins x) (hlim : s.heap.NoLimit) (hgen : s.gens = #[])
    (ha : s.heap.get? a = some { cls := .type "list", data := .seq vs.toArray }) (hi : IntsAre vs ns) (hl : ns.length ≤ sizeLine) (hr : Room k callerA)
    (F : ∀ base : Heap, K.In base → base.Ns mainGlobals mg → FnG P w K mg base CX k fa fd [x] sp) (hbd : ∀ (s : Shared) (u : Value), BindsTo s fd ⟨[u], []⟩ [(x, u)])
    (hsp : ∀ H : Hp, Only H → SqL K H a (ns.map V.int) → sp [.ref a] H (fun v _ => v = .bl true) fun _ _ _ => False)
    (hCX : ∀ H e s', CX [] H s (fun _ _ _ => False) e s' → False) :
    codeAny (model P w) callerA (.call (.ref fa) ⟨[.ref a], []⟩) (fun r s' => r = .ok (.ret (.bool true)) ∧ OldK s.heap s'.heap ∧ s'.os = s.os ∧ AllBare s'.gens) s := by
  have rv := vals_ints hi
  have lenV := hi.length
  -- H: nothing, or the script alone, frozen
  suffices go : ∃ H : Hp, (∀ b u, H b = some u → b = a ∧ K.lookup a = none ∧ u = .frz { cls := .type "list", data := .seq vs.toArray } (.lst (ns.map V.int))) ∧ SqL K H a (ns.map V.int) by
    obtain ⟨H, hH, hS⟩ := go
    have only : Only H := by
      intro b
      cases q : H b with
      | none => exact .inl rfl
      | some u => exact .inr ⟨_, _, by rw [(hH b u q).2.2]⟩
    have hok : HOk P w H s.heap := by
      intro b u q
      obtain ⟨e1, _, e2⟩ := hH b u q
      subst e1 e2
      exact ⟨ha, by rw [List.length_map]; exact hl, vs, _, rv, ha⟩
    have there : ∀ {b : Addr} {o : Obj}, s.heap.get? b = some o → (∀ u, H b = some u → False) → (hidT s.heap H).get? b = some o := by
      intro b o e hn
      refine hidT_get e ?_
      cases q : H b with
      | none => rfl
      | some u => exact (hn u q).elim
    have nsT : ∀ {b : Addr} {m : Str → Option Value}, s.heap.Ns b m → (hidT s.heap H).Ns b m := by
      rintro b m ⟨o, es, ep, e, d, r⟩
      refine ⟨o, es, ep, there e ?_, d, r⟩
      intro u q
      have e1 := (hH b u q).1
      subst e1
      rw [ha] at e
      cases e
      cases d
    have KB : K.In (hidT s.heap H) := by
      intro b o e
      refine there (KX b o e) ?_
      intro u q
      obtain ⟨e1, e2, _⟩ := hH b u q
      rw [e1, e2] at e
      cases e
    have M : Mod K mg (hidT s.heap H) := by
      obtain ⟨mc, h1, h2⟩ := hlim
      exact ⟨KB, nsT hns, ⟨mb, nsT hb, hbb⟩, mc, nsT h1, h2⟩
    have E0 : Env0 P w K mg (hidT s.heap H) callerA [] s H := by
      refine ⟨rfl, M, fun b o e => of_hidT e, Nat.le_of_eq (hidT_size _ _), trivial, ?_, hok, .of_eq hgen⟩
      intro b z
      cases z
    have run := (F _ KB (nsT hns)).go callerA [] s H ⟨[.ref a], []⟩ [.ref a] [.ref a] _ _ ⟨hr, rfl⟩ E0 (hbd s (.ref a)) (.cons rfl .nil) (hsp H only hS)
    refine codeAny_mono run ?_
    intro r s' h
    match r, h with
    | .error e, h => exact (hCX H e s' h).elim
    | .ok .next, h => cases h
    | .ok .brk, h => cases h
    | .ok .cont, h => cases h
    | .ok (.ret u), h =>
      obtain ⟨v, H', os, bare, un, hok', r', q⟩ := h
      have qv : v = .bl true := q
      subst qv
      cases (show u = Value.bool true from r')
      refine ⟨rfl, OldK.of_keep ?_, os, bare⟩
      intro b o e
      cases qb : H b with
      | none => exact un.keep b o e qb (by intro z; cases z) (by intro z; cases z)
      | some u =>
        have hu := (hH b u qb).2.2
        subst hu
        have o1 := (hok b _ qb).1
        rw [e] at o1
        cases o1
        exact (hok' b _ (un.frzs b _ _ qb)).1
  cases q : K.lookup a with
  | some o =>
    refine ⟨fun _ => none, fun b u z => ?_, ?_⟩
    · cases z
    · have e := KX a o q
      rw [ha] at e
      cases e
      refine .inr ⟨_, vs.toArray, _, q, rfl, rfl, rfl, ?_, ?_⟩
      · rw [List.size_toArray, lenV]; exact hl
      · simpa using rv
  | none =>
    refine ⟨fun b => if b = a then some (.frz { cls := .type "list", data := .seq vs.toArray } (.lst (ns.map V.int))) else none, fun b u z => ?_, .inl (.inr ⟨_, if_pos rfl⟩)⟩
    by_cases hba : b = a
    · have z' := (if_pos hba).symm.trans z
      cases z'
      exact ⟨hba, rfl, rfl⟩
    · have z' := (if_neg hba).symm.trans z
      cases z'
theorem walkG {l : PySem.W.OpenLaw} {n k : Nat} {q : Program} {loose : List Str} {XP : (Str → Option Value) → Heap → Prop} {YP : World → Heap → Prop} {d : DefRec} {CX : World → CXT} {x : Str}
    (hn : l.most = some n) (hn2 : n ≤ sizeLine) (hdf : d.params.defaults = []) (hr : Room k callerA)
    (F : ∀ (w : World) (mg : Str → Option Value) (fa : Addr) (h : Heap), YP w h → h.Ns mainGlobals mg → mg d.name = some (.ref fa) → ∃ (K : PySem.W.Frag) (fd : FuncData) (sp : Sp), K.In h ∧
      (∀ (s : Shared) (u : Value), BindsTo s fd ⟨[u], []⟩ [(x, u)]) ∧ (∀ (H : Hp) (a : Addr) (ns : List Int), ns.length ≤ n → Only H → SqL K H a (ns.map V.int) → sp [.ref a] H (fun v _ => v = .bl true) fun _ _ _ => False) ∧
      ∀ base : Heap, K.In base → base.Ns mainGlobals mg → FnG l.prog w K mg base (CX w) k fa fd [x] sp)
    (hCX : ∀ (w : World) (H : Hp) (s : Shared) (e : Value) (s' : Shared), CX w [] H s (fun _ _ _ => False) e s' → False) : PySem.W.WalkO q loose XP YP l.row.toRowW d [] (fun f vs => PySem.call f vs) := by
  apply Att.attach_call hn hdf
  intro w s₀ s mg mb fa o pm cd doc a vs ns G Y ho hd hcd hmg hobj hints hlen hg
  obtain ⟨K, fd, sp, KX, hb, hsp, hF⟩ := F w mg fa _ Y G.T.g hmg
  exact lawG KX G.T.g G.T.b G.T.builtins G.T.nolimit hg hobj hints (Nat.le_trans hlen hn2) hr hF hb (fun H hO hS => hsp H a ns hlen hO hS) fun H e s' => hCX w H s e s'
end Ev
set_option Elab.async false
set_option linter.all false
set_option maxRecDepth 100000
set_option maxHeartbeats 4000000
/-! Ev, part 15: defs and their calls. -/
namespace Ev
open PySem PySem.Spec PyProof.Rows L2
mutual
theorem Rep.low {K : PySem.W.Frag} {ρ ρ' : List Addr} {H : Hp} {n : Nat} (e : ρ = ρ'.take n) : ∀ {d : D} {v : V}, Rep K ρ' H d v → d.lower n = true → Rep K ρ H d v
  | _, _, .non, _ => .non
  | _, _, .bl b, _ => .bl b
  | _, _, .int b, _ => .int b
  | _, _, .str b, _ => .str b
  | _, _, .tup h r, l => .tup (h.imp (fun ⟨o, h1, h2, h3⟩ => ⟨o, h1, fun z => h2 (List.mem_of_mem_take (by rw [e] at z; exact z)), h3⟩) id) (RepL.low e r l)
  | _, _, .row h r, l => .row (h.imp id fun h => h.imp (fun ⟨o, h1, h2, h3⟩ => ⟨o, h1, fun z => h2 (List.mem_of_mem_take (by rw [e] at z; exact z)), h3⟩) id) (RepL.low e r l)
  | _, _, .frl h r, l => .frl (h.imp (fun ⟨o, h1, h2⟩ => ⟨o, h1, fun z => h2 (List.mem_of_mem_take (by rw [e] at z; exact z))⟩) id) (RepL.low e r l)
  | _, _, .ref h, l => .ref (by
    have hl := of_decide_eq_true l
    rw [e, List.getElem?_take_of_lt hl]
    exact h)
theorem RepL.low {K : PySem.W.Frag} {ρ ρ' : List Addr} {H : Hp} {n : Nat} (e : ρ = ρ'.take n) : ∀ {ds : List D} {vs : List V}, RepL K ρ' H ds vs → lowerAll n ds = true → RepL K ρ H ds vs
  | _, _, .nil, _ => .nil
  | _, _, .cons h r, l => by
    have l' := (Bool.and_eq_true _ _).mp l
    exact .cons (Rep.low e h l'.1) (RepL.low e r l'.2)
end
mutual
theorem Rep.lower {K : PySem.W.Frag} {ρ : List Addr} {H : Hp} : ∀ {d : D} {v : V}, Rep K ρ H d v → d.lower ρ.length = true
  | _, _, .non => rfl
  | _, _, .bl b => rfl
  | _, _, .int b => rfl
  | _, _, .str b => rfl
  | _, _, .tup h r => RepL.lower r
  | _, _, .row h r => RepL.lower r
  | _, _, .frl h r => RepL.lower r
  | _, _, .ref h => decide_eq_true (List.getElem?_eq_some_iff.mp h).1
theorem RepL.lower {K : PySem.W.Frag} {ρ : List Addr} {H : Hp} : ∀ {ds : List D} {vs : List V}, RepL K ρ H ds vs → lowerAll ρ.length ds = true
  | _, _, .nil => rfl
  | _, _, .cons h r => (Bool.and_eq_true _ _).mpr ⟨Rep.lower h, RepL.lower r⟩
end
section
variable {K : PySem.W.Frag} {ρ ρ' : List Addr} {H H' : Hp} {n : Nat}
theorem RepKV.low (e : ρ = ρ'.take n) : ∀ {ds : List (NestedKey × D)} {vs : List (L2.Key × V)}, RepKV K ρ' H ds vs → lowerKv n ds = true → RepKV K ρ H ds vs
  | _, _, .nil, _ => .nil
  | _, _, .cons h r, l => by
    have l' := (Bool.and_eq_true _ _).mp (show (_ && _) = true from l)
    exact .cons (h.low e l'.1) (RepKV.low e r l'.2)
theorem RepKV.lower : ∀ {ds : List (NestedKey × D)} {vs : List (L2.Key × V)}, RepKV K ρ H ds vs → lowerKv ρ.length ds = true
  | _, _, .nil => rfl
  | _, _, .cons h r => (Bool.and_eq_true _ _).mpr ⟨h.lower, RepKV.lower r⟩
theorem RepU.low (e : ρ = ρ'.take n) {c : Cell} {u : HO} (h : RepU K ρ' H c u) (l : c.lower n = true) : RepU K ρ H c u := by
  cases c with
  | lst xs => obtain ⟨vs, e1, r⟩ := h; exact ⟨vs, e1, r.low e l⟩
  | dct xs => obtain ⟨ps, e1, r⟩ := h; exact ⟨ps, e1, r.low e l⟩
  | lck c => exact h.elim
theorem RepU.lower {c : Cell} {u : HO} (h : RepU K ρ H c u) : c.lower ρ.length = true := by
  cases c with
  | lst xs => obtain ⟨vs, e1, r⟩ := h; exact r.lower
  | dct xs => obtain ⟨ps, e1, r⟩ := h; exact r.lower
  | lck c => exact h.elim
theorem RepC.low (e : ρ = ρ'.take n) {c : Cell} {a : Addr} (h : RepC K ρ' H c a) (l : c.lower n = true) : RepC K ρ H c a := by
  cases c with
  | lst xs => obtain ⟨u, h1, h2⟩ := h; exact ⟨u, h1, h2.low e l⟩
  | dct xs => obtain ⟨u, h1, h2⟩ := h; exact ⟨u, h1, h2.low e l⟩
  | lck c => obtain ⟨od, u, h1, h2⟩ := h; exact ⟨od, u, h1, h2.low e l⟩
theorem RepC.lower {c : Cell} {a : Addr} (h : RepC K ρ H c a) : c.lower ρ.length = true := by
  cases c with
  | lst xs => obtain ⟨u, h1, h2⟩ := h; exact h2.lower
  | dct xs => obtain ⟨u, h1, h2⟩ := h; exact h2.lower
  | lck c => obtain ⟨od, u, h1, h2⟩ := h; exact h2.lower
theorem RepH.low (e : ρ = ρ'.take n) {d : D} {v : V} (h : RepH K ρ' H d v) (l : d.lower n = true) : RepH K ρ H d v := by
  cases h with
  | kept h => exact .kept (h.low e l)
  | tmp hn hu r => exact .tmp (fun z => hn (List.mem_of_mem_take (by rw [e] at z; exact z))) hu (r.low e l)
theorem Grow.cut (g : Grow ρ ρ' H H') : Grow ρ ρ H H' := ⟨⟨[], by simp, by simp⟩, g.keep, g.tup, g.frz, g.dom⟩
theorem Grow.take (g : Grow ρ ρ' H H') : ρ = ρ'.take ρ.length := by
  obtain ⟨e, q, _⟩ := g.pre
  rw [q, List.take_left']
  rfl
theorem RepS.cut {st st' : Sto} (rs : RepS K ρ H st) (s' : RepS K ρ' H' st') (g : Grow ρ ρ' H H') (hk : Kept st st') : RepS K ρ H' (st'.take st.length) := by
  have et := g.take
  have el : ρ.length = st.length := rs.len
  refine ⟨by rw [List.length_take, el, Nat.min_eq_left hk.2], rs.nd, fun i c a e1 e2 => ?_⟩
  have hi : i < st.length := by rw [← el]; exact (List.getElem?_eq_some_iff.mp e2).1
  rw [List.getElem?_take_of_lt hi] at e1
  have e3 : ρ'[i]? = some a := g.stay.at e2
  have rc := s'.at_ i c a e1 e3
  have low : c.lower ρ.length = true := by
    rcases hk.1 i c hi e1 with q | q
    · exact (rs.at_ i c a q e2).lower
    · rw [el]; exact q
  exact rc.low et low
theorem Wp.sweep {E : EK} {st st' : Sto} {d : D} {Q : D → V → Sto → List Addr → Hp → Prop} (rs : RepS K ρ H st) (w : Wp K E (Ev.sweep st d st') ρ H (Pd K H Q)) (g : Grow ρ ρ' H H') (s' : RepS K ρ' H' st') {v : V} (rh : RepH K ρ' H' d v) (f : Fresh H d v) : ∃ d2 st2 ρ2, Q d2 v st2 ρ2 H' := by
  have same : Wp K E (.ok d st') ρ H (Pd K H Q) → ∃ d2 st2 ρ2, Q d2 v st2 ρ2 H' := fun w => ⟨d, st', ρ', w ρ' H' g s' v rh f⟩
  unfold Ev.sweep at w
  split at w
  · rename_i hk
    have s2 := rs.cut s' g hk
    have el : ρ.length = st.length := rs.len
    have et : ρ = ρ'.take st.length := by rw [← el]; exact g.take
    split at w
    · rename_i hl
      exact ⟨d, _, ρ, w ρ H' g.cut s2 v (rh.low et hl) (fun c a e1 e2 => f c a e1 e2)⟩
    · split at w
      · rename_i k hnl
        split at w
        · rename_i c hc
          split at w
          · rename_i hh
            simp only [Bool.and_eq_true, decide_eq_true_eq, Bool.not_eq_true'] at hh
            obtain ⟨⟨h1, h2⟩, h3⟩ := hh
            cases rh with
            | kept rh =>
              cases rh with
              | @ref _ a ha =>
                have rc := (s'.at_ k c a hc ha)
                obtain ⟨ext, q, hn⟩ := g.pre
                have ham : a ∈ ext := by
                  rw [q, List.getElem?_append_right (by omega)] at ha
                  exact List.mem_of_getElem? ha
                have nr : a ∉ ρ := by
                  have nd := s'.nd
                  rw [q] at nd
                  exact fun z => (List.nodup_append.mp nd).2.2 a z a ham rfl
                have ru : ∃ u, H' a = some u ∧ RepU K ρ' H' c u := by
                  cases c with
                  | lst xs => exact rc
                  | dct xs => exact rc
                  | lck c => cases h2
                obtain ⟨u, hu, ru⟩ := ru
                exact ⟨.tmp c, _, ρ, w ρ H' g.cut s2 (.ref a) (.tmp nr hu (ru.low et h3)) fun c' a' e1 e2 => by cases e2; exact hn a ham⟩
          · exact same w
        · exact same w
      · exact same w
  · exact same w
end
/-- an exception's class and dict as the layer tells them (none so far) -/
def XI (E : EK) : XK := fun _ _ _ => False
/-- what a def of n parameters promises, by its denotation -/
def spOf (K : PySem.W.Frag) (n : Nat) (F : Fn) : Sp := fun vs H Q E => vs.length = n ∧ ∃ ρ st ds EE, (∀ c d H, XI EE c d H → E c d H) ∧ RepS K ρ H st ∧ RepL K ρ H ds vs ∧ Wp K EE (F ds st) ρ H (Pd K H fun _ v _ _ H' => Q v H')
/-- a def that may be called by its name: its arity, denotation, level -/
structure FI where
  n : Nat
  F : Fn
  k : Nat
structure Knows (P : Program) (w : World) (K : PySem.W.Frag) (mg : Str → Option Value) (base : Heap) (x : Str) (i : FI) : Prop where
  ex : ∃ (f : Addr) (fd : FuncData) (ps : List Str), FnG P w K mg base (CX P w) i.k f fd ps (spOf K i.n i.F) ∧ mg x = some (.ref f) ∧ PySem.W.keepIn K (.ref f) = true ∧ Binds K fd ps []
section
variable {X : Cx} {E : EK} {x : Str} {e : Expr} {es : List Expr} {f : Ex} {fs : List Ex} {p pos : Pos} {i : FI} {j : Nat}
theorem call_ok {σ : L2.St} {H : Hp} {Q : VK} {fs : List Ex} (h : tOf X.K E (callE i.n i.F fs) σ H Q) : tCall (spOf X.K i.n i.F) [] (XI E) (tArgs X.K E (allS fs)) σ H Q := by
  obtain ⟨ρ, fr, st, rf, rs, w⟩ := h
  have w' : Wp X.K E ((allS fs fr st).bnd fun ds => if ds.length = i.n then i.F ds else stk) ρ H (Pd X.K H fun _ v _ _ H' => Q v H') := w
  refine tArgs.bnd rf rs w' fun ds vs st1 ρ1 H1 g1 s1 rf1 rl w1 => ?_
  split at w1
  · rename_i hl
    refine ⟨by rw [List.append_nil, ← rl.length]; exact hl, ρ1, st1, ds, E, fun c d H h => h, s1, by rw [List.append_nil]; exact rl, ?_⟩
    exact (w1.base g1).mono fun d st2 ρ2 H2 g2 s2 p v rv fv => p v rv (fv.base g1)
  · exact w1.elim
theorem de_call (c : Knows X.prog X.w X.K X.mg X.base x i) (hr : Room j X.A ∧ X.A.guards = some []) (hk : i.k ≤ j) (hg : Gl X x) (hx : Passes (CX X.prog X.w) X (XI E)) (ha : DA X E (e :: es) (allS (f :: fs)))
    (hdb : (x == ("__debug__" : Str)) = false) (he : starEach (e :: es) X.env = (false, eval e X.env) :: starEach es X.env) (hpl : (backTo pos (starEach es X.env)).any (·.1) = false) : DE X E (.Call (.Name x p) (e :: es) [] pos) (callE i.n i.F (f :: fs)) := by
  obtain ⟨fa, fd, ps, F, hm, kp, b⟩ := c.ex
  exact pe_imp (pe_callG F ⟨hr.1.mono hk, hr.2⟩ hg hm kp b .nil hx ha hdb he hpl) fun σ H Q h => call_ok h
theorem de_call0 (c : Knows X.prog X.w X.K X.mg X.base x i) (hr : Room j X.A ∧ X.A.guards = some []) (hk : i.k ≤ j) (hg : Gl X x) (hx : Passes (CX X.prog X.w) X (XI E)) (hdb : (x == ("__debug__" : Str)) = false) : DE X E (.Call (.Name x p) [] [] pos) (callE i.n i.F []) := by
  obtain ⟨fa, fd, ps, F, hm, kp, b⟩ := c.ex
  refine pe_imp (pe_callG0 F ⟨hr.1.mono hk, hr.2⟩ hg hm kp b .nil hx hdb) fun σ H Q h => ?_
  obtain ⟨ρ, fr, st, rf, rs, w⟩ := call_ok h
  exact w ρ H .refl rs [] .nil
end
/-- a def by its body -/
theorem fn_ok {P : Program} {w : World} {K : PySem.W.Frag} {mg : Str → Option Value} {base : Heap} {x qual : Str} {params : Arguments} {body : List Stmt} {scope : Scope} {kws : List (Str × V)} {f : Addr} {fd : FuncData} {N ps : List Str} {k m : Nat} {b : S}
    (F : FunD K x qual params body scope [] kws f fd) (S : FnScope N ps scope) (hm : N.length = ps.length + m)
    (hb : ∀ (cdv : Value) (A : Around) (outer : List Env) (s : Shared) (H : Hp) (E : XK) (EE : EK), Room k (A.deeper (envOfC qual scope s.heap.objs.size f cdv)) → A.guards = some [] → (∀ c d H, XI EE c d H → E c d H) → DSs (cxOf (CX P w) P w K mg base N qual scope f cdv A outer s H E) EE body b) :
    FnG P w K mg base (CX P w) (k + 1) f fd ps (spOf K ps.length (fnD ps.length m b)) := by
  refine fnG_of F S (fun vs H Q E h => h.1) fun cdv A outer s H vs Q E hr hgd h => ?_
  obtain ⟨hl, ρ, st, ds, EE, hE, rs, rl, w1⟩ := h
  refine ⟨_, hb cdv A outer s H E EE hr hgd hE, ?_⟩
  have e0 : ds.length = ps.length := by rw [rl.length]; exact hl
  unfold fnD at w1
  rw [if_pos e0] at w1
  have em : N.length - vs.length = m := by omega
  have rf : RepF K ρ H (ds.map some ++ List.replicate m none) (L2.start N vs) := by
    refine ⟨by unfold L2.start; simp [rl.length, em], fun i d e => ?_⟩
    unfold L2.start
    by_cases hi : i < ds.length
    · rw [List.getElem?_append_left (by simpa using hi), List.getElem?_map] at e
      cases q : ds[i]? with
      | none => rw [q] at e; cases e
      | some d' =>
        rw [q] at e
        cases e
        obtain ⟨v, e2, r⟩ := rl.get q
        exact ⟨v, by rw [List.getElem?_append_left (by rw [List.length_map, ← rl.length]; exact hi), List.getElem?_map, e2]; rfl, r⟩
    · rw [List.getElem?_append_right (by simpa using hi), List.getElem?_replicate] at e
      split at e <;> cases e
  refine ⟨ρ, _, st, rf, rs, ?_⟩
  revert w1
  cases hbb : b (ds.map some ++ List.replicate m none) st with
  | stuck => exact fun w1 => w1
  | exc c d st' => exact fun w1 => w1
  | ok fl st' =>
    cases fl with
    | bk fr => exact fun w1 => w1.elim
    | rt d =>
      intro w1 ρ' H' g s' v rv fv
      obtain ⟨_, _, _, q⟩ := Wp.sweep rs (show Wp K EE (sweep st d st') ρ H _ from w1) g s' rv fv
      exact q
    | nx fr =>
      intro w1 ρ' H' g s' σ' _
      obtain ⟨_, _, _, q⟩ := Wp.sweep (v := .non) rs (show Wp K EE (sweep st .non st') ρ H _ from w1) g s' (.kept .non) (Fresh.kept (show Rep K ρ' H' .non .non from .non))
      exact q
end Ev
set_option Elab.async false
set_option linter.all false
set_option maxRecDepth 100000
set_option maxHeartbeats 4000000
/-! Ev, part 16: shapes that the side conditions ask for; the last rules. -/
namespace Ev
open PySem PySem.Spec PyProof.Rows L2
/-! ### shapes -/
def starred : Expr → Bool
  | .Starred _ _ => true
  | _ => false
theorem star_cons {e : Expr} {es : List Expr} {env : Env} (h : starred e = false) : starEach (e :: es) env = (false, eval e env) :: starEach es env := by
  cases e <;> first | rfl | cases h
theorem star_any {pos : Pos} {env : Env} : ∀ {es : List Expr}, es.all (fun e => !starred e) = true → (backTo pos (starEach es env)).any (·.1) = false
  | [], _ => rfl
  | e :: es, h => by
    simp only [List.all_cons, Bool.and_eq_true, Bool.not_eq_true'] at h
    rw [star_cons h.1]
    show (false || (backTo pos (starEach es env)).any (·.1)) = false
    rw [star_any h.2]
    rfl
theorem star_two {a b : Expr} {env : Env} (ha : starred a = false) (hb : starred b = false) : starEach [a, b] env = [(false, eval a env), (false, eval b env)] := by
  rw [star_cons ha, star_cons hb]
  rfl
def plainT : Expr → Bool
  | .UnaryOp .Not _ _ => false
  | .BoolOp _ _ _ => false
  | .IfExp _ _ _ _ => false
  | .Compare _ _ _ _ => false
  | _ => true
theorem isTrue_plain {e : Expr} {env : Env} (h : plainT e = true) : ∀ whole, isTrue e env whole = (do let v ← whole; standAt e.pos; holding [v] (truthy v)) := by
  intro whole
  cases e with
  | UnaryOp op x pos => cases op <;> first | rfl | cases h
  | BoolOp => cases h
  | IfExp => cases h
  | Compare => cases h
  | _ => rfl
def sliced : Expr → Bool
  | .Slice _ _ _ _ => true
  | _ => false
theorem plainIx {b : Expr} (h : sliced b = false) : PlainIx b := by
  intro o i
  cases b <;> first | rfl | cases h
theorem assign_sub {o i : Expr} {pos : Pos} {env : Env} (h : sliced i = false) : ∀ v, assign (.Subscript o i pos) env v = (do
      let ov ← holding [v] (eval o env)
      let iv ← holding [v, ov] (eval i env)
      standAt pos
      holding [v, ov, iv] (setItem ov iv v)
      release [v, ov, iv] []) := by
  intro v
  cases i <;> first | rfl | cases h
theorem assignEach_cons {t : Expr} {ts : List Expr} {env : Env} (h : starred t = false) : assignEach (t :: ts) env = (false, assign t env) :: assignEach ts env := by
  cases t <;> first | rfl | cases h
theorem assignEach_len {env : Env} : ∀ {ts : List Expr}, ts.all (fun e => !starred e) = true → (assignEach ts env).length = ts.length ∧ (assignEach ts env).findIdx? (·.1) = none
  | [], _ => ⟨rfl, rfl⟩
  | t :: ts, h => by
    simp only [List.all_cons, Bool.and_eq_true, Bool.not_eq_true'] at h
    rw [assignEach_cons h.1]
    obtain ⟨h1, h2⟩ := assignEach_len (env := env) h.2
    refine ⟨by simp [h1], ?_⟩
    rw [List.findIdx?_cons]
    simp [h2]
def superish : Expr → Bool
  | .Call (.Name _ _) [] [] _ => true
  | _ => false
theorem base_plain {o : Expr} {attr : Str} {env : Env} {whole : Sem Value} (h : superish o = false) : attributeBase o attr env whole = whole := by
  unfold attributeBase
  split
  · cases h
  · rfl
def settish : Expr → Bool
  | .Set _ _ _ => true
  | _ => false
theorem folded_plain {e : Expr} {env : Env} (h : settish e = false) : ∀ x, foldedSetIterable e env x = pure x := by
  intro x
  cases e <;> first | rfl | cases h
/-! ### stores -/
def compScope : Expr → Option Scope
  | .ListComp _ _ s _ => some s
  | .SetComp _ _ s _ => some s
  | .DictComp _ _ _ s _ => some s
  | _ => none
def swB (value t : Expr) (sc : Scope) : Bool := match compScope value with
  | none => false
  | some s => match t with
    | .Name x pos => sc.names.lookup x == some .local && pos.line == value.pos.line && !(s.names.any fun (n, k) => n == x && (k == .local || k == .cell))
    | _ => false
theorem block_fn {env : Env} (h : env.scope.kind = .function) : env.blockKind = .function := by
  unfold Env.blockKind
  rw [h]
  rfl
theorem sw_eq {value t : Expr} {l : Nat} {env : Env} (h : env.scope.kind = .function) : swapsWith value (some t) l env = pure (swB value t env.scope) := by
  have hb := block_fn h
  have key : ∀ s, compScope value = some s → swapsWith value (some t) l env = (match t with
    | .Name x pos => pure (env.blockKind == .function && env.kindOf x == some .local && pos.line == value.pos.line && !(s.names.any fun (n, k) => n == x && (k == .local || k == .cell)))
    | _ => pure false) := by
    intro s hs
    unfold swapsWith
    cases value <;> first
      | (cases hs; done)
      | (cases hs; cases t <;> rfl)
  unfold swB
  cases hs : compScope value with
  | none =>
    unfold swapsWith
    cases value <;> first | rfl | cases hs
  | some s =>
    rw [key s hs]
    cases t with
    | Name x pos => rw [hb]; rfl
    | _ => rfl
theorem sw_none {value : Expr} {l : Nat} {env : Env} (h : compScope value = none) : swapsWith value none l env = pure false := by
  unfold swapsWith
  cases value <;> first | rfl | cases h
/-- which names a swapped assignment stores; none: told nowhere -/
def ssNames (ts : List Expr) (sc : Scope) : List Str := ts.filterMap fun
  | .Name id pos => if sc.names.lookup id == some .local && pos.line == (ts.head?.map (·.pos.line)).getD 0 then some id else none
  | _ => none
def ssStar (vs : List Expr) : Bool := vs.any fun | .Starred .. => true | _ => false
def ssCore (ts vs : List Expr) (sc : Scope) : Option (Option (List Str)) :=
  if !(ts.length == 2 || ts.length == 3) || vs.length != ts.length then some none
  else if ssStar vs then some none
  else if (ssNames ts sc).length != ts.length || (ssNames ts sc).eraseDups.length != (ssNames ts sc).length then some none
  else if vs.all (foldedForSure 8) then some none
  else if vs.all (constantsAlone 8) then none
  else some (some (ssNames ts sc))
def ssB (t v : Expr) (sc : Scope) : Option (Option (List Str)) := match t with
  | .Tuple ts _ _ => match v with
    | .Tuple vs _ _ => ssCore ts vs sc
    | _ => some none
  | .List _ _ => none
  | _ => some none
theorem ss_core {ts vs : List Expr} {k k2 : Nat} {p p2 : Pos} {env : Env} {r : Option (List Str)} (h : env.scope.kind = .function) (e : ssCore ts vs env.scope = some r) : swappedStores [.Tuple ts k p] (.Tuple vs k2 p2) env = pure r := by
  have hb := block_fn h
  unfold ssCore at e
  unfold swappedStores
  simp only [hb, Env.kindOf]
  split at e
  · rename_i h1
    cases e
    have h1' : (!(ts.length == 2 || ts.length == 3) || vs.length != ts.length || (ScopeKind.function != ScopeKind.function)) = true := by
      rw [h1]; rfl
    exact if_pos h1'
  · rename_i h1
    have h1' : ¬ (!(ts.length == 2 || ts.length == 3) || vs.length != ts.length || (ScopeKind.function != ScopeKind.function)) = true := by
      intro z
      apply h1
      rw [Bool.or_eq_true] at z
      exact z.resolve_right (by decide)
    refine (if_neg h1').trans ?_
    split at e
    · rename_i h2
      cases e
      exact if_pos h2
    · rename_i h2
      refine (if_neg h2).trans ?_
      split at e
      · rename_i h3
        cases e
        exact if_pos h3
      · rename_i h3
        refine (if_neg h3).trans ?_
        split at e
        · rename_i h4
          cases e
          exact if_pos h4
        · rename_i h4
          refine (if_neg h4).trans ?_
          split at e
          · cases e
          · rename_i h5
            cases e
            exact if_neg h5
theorem ss_eq {t v : Expr} {env : Env} {r : Option (List Str)} (h : env.scope.kind = .function) (e : ssB t v env.scope = some r) : swappedStores [t] v env = pure r := by
  cases t with
  | Tuple ts k p =>
    cases v with
    | Tuple vs k2 p2 => exact ss_core h e
    | _ => cases e; rfl
  | List ts p => cases e
  | _ => cases e; rfl
/-! ### is, is not -/
def isD (x y : D) : M D := match y with
  | .non => isND x
  | _ => stk
def isNotD (x y : D) : M D := match y with
  | .non => notND x
  | _ => stk
def ifT (t a b : Te) : Te := fun fr => bnd (t fr) fun k => if k then a fr else b fr
section
variable {X : Cx} {E : EK} {a b c : Expr} {fa fb fc : Ex} {ta tb tc : Te} {pos p : Pos}
theorem op_isD : OpR X (compareOp .Is) (rOf X.K E isD) := by
  intro pins s σ H x y v u Q I r1 r2 ⟨ρ, st, d, e, rs, rd, re, w⟩
  unfold isD at w
  split at w
  · exact op_isN pins s σ H x y v u Q I r1 r2 ⟨re.non, by rw [isNon_of rd]; exact Pd.kept (Q := fun _ v _ _ H' => Q v H') w .refl rs (.bl _)⟩
  · exact w.elim
theorem op_isNotD : OpR X (compareOp .IsNot) (rOf X.K E isNotD) := by
  intro pins s σ H x y v u Q I r1 r2 ⟨ρ, st, d, e, rs, rd, re, w⟩
  unfold isNotD at w
  split at w
  · exact op_notN pins s σ H x y v u Q I r1 r2 ⟨re.non, by rw [isNon_of rd]; exact Pd.kept (Q := fun _ v _ _ H' => Q v H') w .refl rs (.bl _)⟩
  · exact w.elim
/-! ### more tests -/
theorem dt_ifE (hc : DT X E c tc) (ha : DT X E a ta) (hb : DT X E b tb) : DT X E (.IfExp c a b pos) (ifT tc ta tb) := by
  refine ⟨fun pins s σ H Q I ⟨ρ, fr, st, rf, rs, w⟩ => ?_⟩
  have w' : Wp X.K E ((tc fr st).bnd fun k => if k then ta fr else tb fr) ρ H (fun b _ _ H' => Q b H') := w
  show wpAny _ _ (do
    if ← isTrue c X.env (eval c X.env) then isTrue a X.env (eval a X.env) else isTrue b X.env (eval b X.env)) _ _ s
  refine wpAny_bind (thn (hc.run pins s σ H _ I (tTest.bnd (Q := fun k H1 => if k = true then Ev.tTest X.K E ta σ H1 Q else Ev.tTest X.K E tb σ H1 Q) rf rs w' fun k st1 ρ1 H1 g1 s1 rf1 w1 => ?_)) fun k s1 ⟨H1, I1, q1⟩ => ?_)
  · cases k with
    | true => exact ⟨ρ1, fr, st1, rf1, s1, w1.base g1⟩
    | false => exact ⟨ρ1, fr, st1, rf1, s1, w1.base g1⟩
  · cases k with
    | true => exact ha.run pins s1 σ H1 Q I1 q1
    | false => exact hb.run pins s1 σ H1 Q I1 q1
theorem dt_chain {op op' : CmpOp} {f g : D → D → M D} (ho : OpR X (compareOp op) (rOf X.K E f)) (ho' : OpR X (compareOp op') (rOf X.K E g)) (hbl : ∀ x y st d st', f x y st = .ok d st' → ∃ k, d = .bl k) (hbl' : ∀ x y st d st', g x y st = .ok d st' → ∃ k, d = .bl k) (ha : DE X E a fa) (hb : DE X E b fb) (hc : DE X E c fc)
    (hm : lastMarks [op, op'] [b, c] = false) : DT X E (.Compare a [op, op'] [b, c] pos) (testE (chainE f g fa fb fc)) := by
  refine ⟨fun pins s σ H Q I ⟨ρ, fr, st, rf, rs, w⟩ => ?_⟩
  refine (pt_chain (pos := pos) ho ho' ha hb hc hm).run pins s σ H Q I ?_
  have w0 : Wp X.K E ((fa fr st).bnd fun x => bnd (bnd (fb fr) fun y => bnd (f x y) fun z => bnd (truD z) fun k => if k then bnd (fc fr) fun w => g y w else ret z) truD) ρ H (fun b _ _ H' => Q b H') := by
    have : testE (chainE f g fa fb fc) fr st = ((fa fr st).bnd fun x => bnd (bnd (fb fr) fun y => bnd (f x y) fun z => bnd (truD z) fun k => if k then bnd (fc fr) fun w => g y w else ret z) truD) := by
      show ((fa fr st).bnd _).bnd _ = _
      cases fa fr st <;> rfl
    rw [← this]
    exact w
  refine tOf.bnd (Q := fun x H1 => tOf X.K E fb σ H1 fun y H2 => _) rf rs w0 fun x v st1 ρ1 H1 g1 s1 rf1 rh f1 w1 => ?_
  have w1' : Wp X.K E ((fb fr st1).bnd fun y => bnd (bnd (f x y) fun z => bnd (truD z) fun k => if k then bnd (fc fr) fun w => g y w else ret z) truD) ρ1 H1 (fun b _ _ H' => Q b H') := by
    have : (bnd (bnd (fb fr) fun y => bnd (f x y) fun z => bnd (truD z) fun k => if k then bnd (fc fr) fun w => g y w else ret z) truD) st1 = ((fb fr st1).bnd fun y => bnd (bnd (f x y) fun z => bnd (truD z) fun k => if k then bnd (fc fr) fun w => g y w else ret z) truD) := by
      show ((fb fr st1).bnd _).bnd _ = _
      cases fb fr st1 <;> rfl
    rw [← this]
    exact w1.base g1
  refine tOf.bnd rf1 s1 w1' fun y u st2 ρ2 H2 g2 s2 rf2 rh2 f2 w2 => ?_
  have w2' : Wp X.K E ((f x y st2).bnd fun z => bnd (bnd (truD z) fun k => if k then bnd (fc fr) fun w => g y w else ret z) truD) ρ2 H2 (fun b _ _ H' => Q b H') := by
    have : (bnd (bnd (f x y) fun z => bnd (truD z) fun k => if k then bnd (fc fr) fun w => g y w else ret z) truD) st2 = ((f x y st2).bnd fun z => bnd (bnd (truD z) fun k => if k then bnd (fc fr) fun w => g y w else ret z) truD) := by
      show ((f x y st2).bnd _).bnd _ = _
      cases f x y st2 <;> rfl
    rw [← this]
    exact w2.base g2
  refine ⟨ρ2, st2, x, y, s2, rh.grow g2, rh2, ?_⟩
  cases q : f x y st2 with
  | ok d st3 =>
    obtain ⟨k, rfl⟩ := hbl _ _ _ _ _ q
    rw [q] at w2'
    intro ρ3 H3 g3 s3 z rz fz
    refine ⟨k, rz.bl, ?_⟩
    cases k with
    | true =>
      rw [if_pos rfl]
      have w3 : Wp X.K E ((fc fr st3).bnd fun w => bnd (g y w) truD) ρ2 H2 (fun b _ _ H' => Q b H') := by
        have : (bnd (bnd (truD (.bl true)) fun k => if k then bnd (fc fr) fun w => g y w else ret (.bl true)) truD) st3 = ((fc fr st3).bnd fun w => bnd (g y w) truD) := by
          show ((fc fr st3).bnd _).bnd _ = _
          cases fc fr st3 <;> rfl
        rw [← this]
        exact w2'
      refine tOf.bnd (rf2.stay g3.stay) s3 (w3.base g3) fun t wv st4 ρ4 H4 g4 s4 rf4 rh4 f4 w4 => ?_
      refine ⟨ρ4, st4, y, t, s4, (rh2.grow g3).grow g4, rh4, ?_⟩
      have w5 : Wp X.K E ((g y t st4).bnd truD) ρ4 H4 (fun b _ _ H' => Q b H') := w4.base g4
      cases q' : g y t st4 with
      | ok d' st5 =>
        obtain ⟨k', rfl⟩ := hbl' _ _ _ _ _ q'
        rw [q'] at w5
        intro ρ5 H5 g5 s5 z5 rz5 fz5
        exact ⟨k', rz5.bl, w5 ρ5 H5 g5 s5⟩
      | exc c d st5 => rw [q'] at w5; exact w5
      | stuck => rw [q'] at w5; exact w5.elim
    | false =>
      rw [if_neg Bool.false_ne_true]
      exact ⟨false, rfl, w2' ρ3 H3 g3 s3⟩
  | exc c d st3 => rw [q] at w2'; exact w2'
  | stuck => rw [q] at w2'; exact w2'.elim
end
end Ev
set_option Elab.async false
set_option linter.all false
set_option maxRecDepth 100000
set_option maxHeartbeats 4000000
/-! Ev, part 17: from the text to a denotation: rules, and that each is right. -/
namespace Ev
open PySem PySem.Spec PyProof.Rows L2
/-- what is known where a body stands -/
structure Tc where
  N : List Str
  sc : Scope
  fnc : Str → Bool
  G : List (Str × FI)
  V : List (Str × D)
  B : List Str
  j : Nat
  wf : Nat
structure Good (C : Tc) (X : Cx) (E : EK) : Prop where
  N : X.N = C.N
  sc : X.env.scope = C.sc
  kind : C.sc.kind = .function
  nd : C.N.Nodup
  calm : X.calm = true
  room : Room C.j X.A ∧ X.A.guards = some []
  fnc : ∀ x, C.fnc x = true → X.fn x = true
  G : ∀ x i, C.G.lookup x = some i → Knows X.prog X.w X.K X.mg X.base x i ∧ i.k ≤ C.j
  V : ∀ x d, C.V.lookup x = some d → ∃ u v, X.mg x = some u ∧ RelV v u ∧ GloV X.K d v
  B : ∀ x, C.B.contains x = true → X.mg x = none
  pass : Passes (CX X.prog X.w) X (XI E)
  own : PassesOwn (model X.prog X.w) X.A X.env X.xe
/-- a comprehension's block -/
def Tc.blk (C : Tc) (scope : Scope) : Tc := { C with sc := relS scope C.sc, fnc := fun x => scope.names.lookup x == some .cell }
theorem Good.blk {C : Tc} {X : Cx} {E : EK} (g : Good C X E) {scope : Scope} (hk : scope.kind = .function) : InBlk X scope fun Y => Good (C.blk scope) Y EK0 := fun s H C' cl fp =>
  ⟨g.N, (show relS scope X.env.scope = relS scope C.sc by rw [g.sc]), hk, g.nd, g.calm, g.room, fun _ h => h, g.G, g.V, g.B, fun pins σ H s e s' I ⟨_, _, _, _, _, _, _, _, _, _, _, _, z⟩ => z.elim, PassesOwn.never⟩
/-- the place of a name -/
def slot (x : Str) : List Str → Option Nat
  | [] => none
  | y :: ys => if y = x then some 0 else (slot x ys).map (· + 1)
theorem slot_at {x : Str} : ∀ {N : List Str} {i : Nat}, slot x N = some i → N[i]? = some x
  | [], _, h => by cases h
  | y :: ys, i, h => by
    unfold slot at h
    split at h
    · rename_i e
      cases h
      rw [e]
      rfl
    · cases q : slot x ys with
      | none => rw [q] at h; cases h
      | some j =>
        rw [q] at h
        cases h
        rw [List.getElem?_cons_succ]
        exact slot_at q
def ownOf (scope : Scope) : Nat → List Str → List (Str × Nat)
  | _, [] => []
  | i, x :: xs => if scope.names.lookup x = some .local ∨ scope.names.lookup x = some .cell then (x, i) :: ownOf scope (i + 1) xs else ownOf scope (i + 1) xs
/-- a global name that is not written __debug__ -/
def Tc.glob (C : Tc) (x : Str) : Bool := C.sc.names.lookup x == some .globalImplicit && !(x == ("__debug__" : Str)) && !(x == ("__name__" : Str))
/-- a built-in that nothing hides -/
def Tc.blt (C : Tc) (x : Str) : Bool := C.glob x && C.B.contains x
section
variable {C : Tc} {X : Cx} {E : EK}
theorem Good.gl (g : Good C X E) {x : Str} (h : C.glob x = true) : Gl X x ∧ (x == ("__debug__" : Str)) = false ∧ x ≠ "__name__" := by
  unfold Tc.glob at h
  simp only [Bool.and_eq_true, Bool.not_eq_true'] at h
  refine ⟨?_, h.1.2, fun z => ?_⟩
  · show X.env.scope.names.lookup x = _
    rw [g.sc]
    exact eq_of_beq h.1.1
  · have := h.2
    rw [z] at this
    exact absurd this (by decide)
theorem Good.bl (g : Good C X E) {x : Str} (h : C.blt x = true) : Gl X x ∧ X.mg x = none ∧ (x == ("__debug__" : Str)) = false ∧ x ≠ "__name__" := by
  unfold Tc.blt at h
  obtain ⟨h1, h2⟩ := (Bool.and_eq_true _ _).mp h
  obtain ⟨a, b, c⟩ := g.gl h1
  exact ⟨a, g.B x h2, b, c⟩
theorem Good.u70 (g : Good C X E) : X.A.units + 70 < cLine := by have := g.room.1.un; omega
end
/-- translators of parts -/
structure Trs where
  e : Tc → Expr → Option Ex
  t : Tc → Expr → Option Te
  i : Tc → Expr → Expr → Option Ev.It
  g : Tc → List Nat → Expr → Option Tg
structure Sound (T : Trs) : Prop where
  e : ∀ {C : Tc} {X : Cx} {E : EK}, Good C X E → ∀ {x f}, T.e C x = some f → DE X E x f
  t : ∀ {C : Tc} {X : Cx} {E : EK}, Good C X E → ∀ {x f}, T.t C x = some f → DT X E x f
  i : ∀ {C : Tc} {X : Cx} {E : EK}, Good C X E → ∀ {tg x f}, T.i C tg x = some f → DI X E tg x f
  g : ∀ {C : Tc} {X : Cx} {E : EK}, Good C X E → ∀ {sl x f}, T.g C sl x = some f → DG X E sl x f
abbrev RE := Trs → Tc → Expr → Option Ex
abbrev RT := Trs → Tc → Expr → Option Te
abbrev RI := Trs → Tc → Expr → Expr → Option Ev.It
abbrev RG := Trs → Tc → List Nat → Expr → Option Tg
def REok (r : RE) : Prop := ∀ (T : Trs), Sound T → ∀ {C : Tc} {X : Cx} {E : EK}, Good C X E → ∀ {x f}, r T C x = some f → DE X E x f
def RTok (r : RT) : Prop := ∀ (T : Trs), Sound T → ∀ {C : Tc} {X : Cx} {E : EK}, Good C X E → ∀ {x f}, r T C x = some f → DT X E x f
def RIok (r : RI) : Prop := ∀ (T : Trs), Sound T → ∀ {C : Tc} {X : Cx} {E : EK}, Good C X E → ∀ {tg x f}, r T C tg x = some f → DI X E tg x f
def RGok (r : RG) : Prop := ∀ (T : Trs), Sound T → ∀ {C : Tc} {X : Cx} {E : EK}, Good C X E → ∀ {sl x f}, r T C sl x = some f → DG X E sl x f
structure Rl where
  e : List RE
  t : List RT
  i : List RI
  g : List RG
structure RlOk (R : Rl) : Prop where
  e : ∀ r ∈ R.e, REok r
  t : ∀ r ∈ R.t, RTok r
  i : ∀ r ∈ R.i, RIok r
  g : ∀ r ∈ R.g, RGok r
def tryAll {α β : Type} (f : α → Option β) : List α → Option β
  | [] => none
  | a :: as => match f a with
    | some b => some b
    | none => tryAll f as
theorem tryAll_ok {α β : Type} {f : α → Option β} {b : β} : ∀ {l : List α}, tryAll f l = some b → ∃ a ∈ l, f a = some b
  | [], h => by cases h
  | a :: as, h => by
    unfold tryAll at h
    split at h
    · rename_i q
      cases h
      exact ⟨a, List.mem_cons_self, q⟩
    · obtain ⟨a', m, e⟩ := tryAll_ok h
      exact ⟨a', List.mem_cons_of_mem _ m, e⟩
def trs (R : Rl) : Nat → Trs
  | 0 => ⟨fun _ _ => none, fun _ _ => none, fun _ _ _ => none, fun _ _ _ => none⟩
  | n + 1 => ⟨fun C x => tryAll (fun r => r (trs R n) C x) R.e, fun C x => tryAll (fun r => r (trs R n) C x) R.t, fun C tg x => tryAll (fun r => r (trs R n) C tg x) R.i, fun C sl x => tryAll (fun r => r (trs R n) C sl x) R.g⟩
theorem trs_ok {R : Rl} (h : RlOk R) : ∀ n, Sound (trs R n)
  | 0 => by
    refine ⟨?_, ?_, ?_, ?_⟩
    · intro C X E _ x f e; cases e
    · intro C X E _ x f e; cases e
    · intro C X E _ tg x f e; cases e
    · intro C X E _ sl x f e; cases e
  | n + 1 => ⟨fun g _ _ e => let ⟨r, m, q⟩ := tryAll_ok e; h.e r m _ (trs_ok h n) g q, fun g _ _ e => let ⟨r, m, q⟩ := tryAll_ok e; h.t r m _ (trs_ok h n) g q,
    fun g _ _ _ e => let ⟨r, m, q⟩ := tryAll_ok e; h.i r m _ (trs_ok h n) g q, fun g _ _ _ e => let ⟨r, m, q⟩ := tryAll_ok e; h.g r m _ (trs_ok h n) g q⟩
/-! ### expressions -/
def rAtom : RE := fun _ C x => match x with
  | .Constant (.int i) _ _ => some (conE (.int i))
  | .Constant (.bool i) _ _ => some (conE (.bl i))
  | .Constant .none _ _ => some (conE .non)
  | .Constant (.str i) _ _ => some (conE (.str i))
  | .Name x _ => if x == ("__debug__" : Str) || x == ("__classdict__" : Str) then none else match C.sc.names.lookup x with
    | some .local => (slot x C.N).map varE
    | some .cell => (slot x C.N).map varE
    | some .free => (slot x C.N).map varE
    | some .globalImplicit => (C.V.lookup x).map conE
    | _ => none
  | _ => none
theorem rAtom_ok : REok rAtom := by
  intro T hT C X E g x f h
  unfold rAtom at h
  split at h
  · cases h; exact de_int
  · cases h; exact de_bl
  · cases h; exact de_non
  · cases h; exact de_str
  · rename_i x pos
    split at h
    · cases h
    · rename_i hn
      simp only [Bool.or_eq_true, not_or, Bool.not_eq_true] at hn
      have hvis : ∀ k, C.sc.names.lookup x = some k → X.env.scope.names.lookup x = some k := fun k e => by rw [g.sc]; exact e
      have loc : ∀ f, (slot x C.N).map varE = some f → Vis X.env.scope x → DE X E (.Name x pos) f := fun f e v => by
        cases q : slot x C.N with
        | none => rw [q] at e; cases e
        | some i =>
          rw [q] at e
          cases e
          exact de_var (by rw [g.N]; exact slot_at q) v hn.1 hn.2
      split at h
      · rename_i e; exact loc f h (.inl (hvis _ e))
      · rename_i e; exact loc f h (.inr (.inl (hvis _ e)))
      · rename_i e; exact loc f h (.inr (.inr (hvis _ e)))
      · rename_i e
        cases q : C.V.lookup x with
        | none => rw [q] at h; cases h
        | some d =>
          rw [q] at h
          cases h
          obtain ⟨u, v, h1, h2, h3⟩ := g.V x d q
          exact de_glob (hvis _ e) h1 h2 h3 hn.1
      · cases h
  · cases h
def trAll (f : Expr → Option Ex) : List Expr → Option (List Ex)
  | [] => some []
  | e :: es => if starred e then none else match f e with
    | none => none
    | some a => match trAll f es with
      | none => none
      | some as => some (a :: as)
theorem trAll_ok {X : Cx} {E : EK} {f : Expr → Option Ex} (hf : ∀ {x a}, f x = some a → DE X E x a) : ∀ {es : List Expr} {fs : List Ex}, trAll f es = some fs → DA X E es (allS fs) ∧ fs.length = es.length ∧ es.all (fun e => !starred e) = true
  | [], fs, h => by cases h; exact ⟨da_nil, rfl, rfl⟩
  | e :: es, fs, h => by
    unfold trAll at h
    split at h
    · cases h
    · rename_i hs
      have hs : starred e = false := by simpa using hs
      split at h
      · cases h
      · rename_i a ha
        split at h
        · cases h
        · rename_i as q
          cases h
          obtain ⟨h1, h2, h3⟩ := trAll_ok hf q
          exact ⟨da_cons (hf ha) h1 (star_cons hs), by simp [h2], by simp [hs, h3]⟩
def rDisp : RE := fun T C x => match x with
  | .Tuple es _ _ => if es.length ≤ 1000 then (trAll (T.e C) es).map tupE else none
  | .List es _ => if es.length ≤ 1000 then (trAll (T.e C) es).map lstE else none
  | _ => none
theorem rDisp_ok : REok rDisp := by
  intro T hT C X E g x f h
  unfold rDisp at h
  split at h
  · rename_i es k pos
    split at h
    · rename_i hl
      cases q : trAll (T.e C) es with
      | none => rw [q] at h; cases h
      | some fs =>
        rw [q] at h
        cases h
        obtain ⟨h1, h2, _⟩ := trAll_ok (fun e => hT.e g e) q
        exact de_tup h1 (by omega)
    · cases h
  · rename_i es pos
    split at h
    · rename_i hl
      cases q : trAll (T.e C) es with
      | none => rw [q] at h; cases h
      | some fs =>
        rw [q] at h
        cases h
        obtain ⟨h1, h2, _⟩ := trAll_ok (fun e => hT.e g e) q
        exact de_lst h1 (by omega)
    · cases h
  · cases h
noncomputable def opD : Operator → Option (D → D → M D)
  | .Add => some addD
  | .Sub => some subD
  | .Mult => some mulD
  | .Mod => some modD
  | .FloorDiv => some fdivD
  | .Pow => some powD
  | _ => none
theorem opD_ok {X : Cx} {E : EK} {op : Operator} {f : D → D → M D} (h : opD op = some f) : OpR X (binaryOp op) (rOf X.K E f) := by
  cases op <;> first
    | (cases h; done)
    | (cases h; first | exact op_addD | exact op_subD | exact op_mulD | exact op_modD | exact op_fdivD | exact op_powD)
def cmpD : CmpOp → D → D → M D
  | .Eq => eqD
  | .NotEq => neD
  | .Lt => ltD
  | .LtE => leD
  | .Gt => gtD
  | .GtE => geD
  | .Is => isD
  | .IsNot => isNotD
  | .In => inD
  | .NotIn => notInD
theorem cmpD_ok {C : Tc} {X : Cx} {E : EK} (g : Good C X E) (op : CmpOp) : OpR X (compareOp op) (rOf X.K E (cmpD op)) := by
  have := g.u70
  cases op with
  | Eq => exact op_eqDX (by omega)
  | NotEq => exact op_neDX (by omega)
  | Lt => exact op_ltD
  | LtE => exact op_leD
  | Gt => exact op_gtD
  | GtE => exact op_geD
  | Is => exact op_isD
  | IsNot => exact op_isNotD
  | In => exact op_inD (by omega)
  | NotIn => exact op_notInD (by omega)
theorem cmpD_bl (op : CmpOp) : ∀ x y st d st', cmpD op x y st = .ok d st' → ∃ k, d = .bl k := by
  intro x y st d st' h
  cases op with
  | Eq => replace h : eqD x y st = .ok d st' := h; unfold eqD at h; split at h; (cases h; exact ⟨_, rfl⟩); split at h <;> cases h; exact ⟨_, rfl⟩
  | NotEq => replace h : neD x y st = .ok d st' := h; unfold neD at h; split at h; (cases h; exact ⟨_, rfl⟩); split at h <;> cases h; exact ⟨_, rfl⟩
  | Lt => replace h : ltD x y st = .ok d st' := h; unfold ltD at h; split at h <;> cases h; exact ⟨_, rfl⟩
  | LtE => replace h : leD x y st = .ok d st' := h; unfold leD at h; split at h <;> cases h; exact ⟨_, rfl⟩
  | Gt => replace h : gtD x y st = .ok d st' := h; unfold gtD at h; split at h <;> cases h; exact ⟨_, rfl⟩
  | GtE => replace h : geD x y st = .ok d st' := h; unfold geD at h; split at h <;> cases h; exact ⟨_, rfl⟩
  | Is => replace h : isD x y st = .ok d st' := h; unfold isD at h; split at h <;> cases h; exact ⟨_, rfl⟩
  | IsNot => replace h : isNotD x y st = .ok d st' := h; unfold isNotD at h; split at h <;> cases h; exact ⟨_, rfl⟩
  | In => replace h : inD x y st = .ok d st' := h; unfold inD at h; split at h <;> cases h; exact ⟨_, rfl⟩
  | NotIn => replace h : notInD x y st = .ok d st' := h; unfold notInD at h; split at h <;> cases h; exact ⟨_, rfl⟩
noncomputable def rOp : RE := fun T C x => match x with
  | .BinOp a op b _ => match opD op, T.e C a, T.e C b with
    | some f, some fa, some fb => some (bin2 f fa fb)
    | _, _, _ => none
  | .UnaryOp .USub a _ => (T.e C a).map (un1 negD)
  | .UnaryOp .Not a _ => (T.e C a).map notE
  | .Compare a [op] [b] _ => if behindInMarks op b then none else match T.e C a, T.e C b with
    | some fa, some fb => some (bin2 (cmpD op) fa fb)
    | _, _ => none
  | .Compare a [op, op'] [b, c] _ => if lastMarks [op, op'] [b, c] then none else match T.e C a, T.e C b, T.e C c with
    | some fa, some fb, some fc => some (chainE (cmpD op) (cmpD op') fa fb fc)
    | _, _, _ => none
  | .IfExp c a b _ => match T.t C c, T.e C a, T.e C b with
    | some tc, some fa, some fb => some (ifE tc fa fb)
    | _, _, _ => none
  | _ => none
theorem rOp_ok : REok rOp := by
  intro T hT C X E g x f h
  unfold rOp at h
  split at h
  · split at h
    · rename_i h1 h2 h3
      cases h
      exact de_op (opD_ok h1) (hT.e g h2) (hT.e g h3)
    · cases h
  · rename_i a pos
    cases q : T.e C a with
    | none => rw [q] at h; cases h
    | some fa => rw [q] at h; cases h; exact de_un un_negD (hT.e g q)
  · rename_i a pos
    cases q : T.e C a with
    | none => rw [q] at h; cases h
    | some fa => rw [q] at h; cases h; exact de_not (hT.e g q)
  · split at h
    · cases h
    · rename_i hm
      split at h
      · rename_i h1 h2
        cases h
        exact de_cmp (cmpD_ok g _) (hT.e g h1) (hT.e g h2) (by simpa using hm)
      · cases h
  · split at h
    · cases h
    · rename_i hm
      split at h
      · rename_i h1 h2 h3
        cases h
        exact de_chain (cmpD_ok g _) (cmpD_ok g _) (cmpD_bl _) (hT.e g h1) (hT.e g h2) (hT.e g h3) (by simpa using hm)
      · cases h
  · split at h
    · rename_i h1 h2 h3
      cases h
      exact de_ifExp (hT.t g h1) (hT.e g h2) (hT.e g h3)
    · cases h
  · cases h
def boolE (f : Expr → Option Ex) (op : BoolOp) : List Expr → Option Ex
  | [] => none
  | [a] => f a
  | a :: b :: rest => match f a with
    | none => none
    | some fa => match boolE f op (b :: rest) with
      | none => none
      | some fb => match op with
        | .And => some (andE fa fb)
        | .Or => some (orE fa fb)
theorem boolE_ok {X : Cx} {E : EK} {f : Expr → Option Ex} (hf : ∀ {x a}, f x = some a → DE X E x a) {op : BoolOp} {pos : Pos} : ∀ {es : List Expr} {a : Ex}, boolE f op es = some a → DE X E (.BoolOp op es pos) a
  | [], _, h => by cases h
  | [e], _, h => de_one (hf h)
  | e :: b :: rest, _, h => by
    unfold boolE at h
    split at h
    · cases h
    · rename_i fa h1
      split at h
      · cases h
      · rename_i fb h2
        cases op with
        | And => cases h; exact de_and (hf h1) (boolE_ok hf h2)
        | Or => cases h; exact de_or (hf h1) (boolE_ok hf h2)
def rBool : RE := fun T C x => match x with
  | .BoolOp op es _ => boolE (T.e C) op es
  | _ => none
theorem rBool_ok : REok rBool := by
  intro T hT C X E g x f h
  unfold rBool at h
  split at h
  · exact boolE_ok (fun e => hT.e g e) h
  · cases h
def trOpt (f : Expr → Option Ex) : Option Expr → Option (Option Ex)
  | none => some none
  | some e => (f e).map some
theorem trOpt_ok {X : Cx} {E : EK} {f : Expr → Option Ex} (hf : ∀ {x a}, f x = some a → DE X E x a) {e : Option Expr} {a : Option Ex} (h : trOpt f e = some a) : DPart X E e a := by
  cases e with
  | none => cases h; exact dp_none
  | some e =>
    replace h : (f e).map some = some a := h
    cases q : f e with
    | none => rw [q] at h; cases h
    | some fa => rw [q] at h; cases h; exact dp_some (hf q)
def rSub : RE := fun T C x => match x with
  | .Subscript a (.Slice lo hi none _) _ => match T.e C a, trOpt (T.e C) lo, trOpt (T.e C) hi with
    | some fa, some fl, some fh => some (sliceE fa fl fh)
    | _, _, _ => none
  | .Subscript a b _ => if sliced b then none else match T.e C a, T.e C b with
    | some fa, some fb => some (bin2 ixD fa fb)
    | _, _ => none
  | _ => none
theorem rSub_ok : REok rSub := by
  intro T hT C X E g x f h
  unfold rSub at h
  split at h
  · split at h
    · rename_i h1 h2 h3
      cases h
      exact de_slice (hT.e g h1) (trOpt_ok (fun e => hT.e g e) h2) (trOpt_ok (fun e => hT.e g e) h3)
    · cases h
  · split at h
    · cases h
    · rename_i hs
      split at h
      · rename_i h1 h2
        cases h
        exact de_ix (hT.e g h1) (hT.e g h2) (plainIx (by simpa using hs))
      · cases h
  · cases h
/-! calls -/
def rDef : RE := fun T C x => match x with
  | .Call (.Name x _) es [] _ => if C.glob x then match C.G.lookup x with
      | some i => (trAll (T.e C) es).map (callE i.n i.F)
      | none => none
    else none
  | _ => none
theorem rDef_ok : REok rDef := by
  intro T hT C X E g x f h
  unfold rDef at h
  split at h
  · rename_i x p es pos
    split at h
    · rename_i hg
      obtain ⟨gl, hdb, _⟩ := g.gl hg
      split at h
      · rename_i i hi
        obtain ⟨kn, hk⟩ := g.G x i hi
        cases q : trAll (T.e C) es with
        | none => rw [q] at h; cases h
        | some fs =>
          rw [q] at h
          cases h
          obtain ⟨h1, h2, h3⟩ := trAll_ok (fun e => hT.e g e) q
          cases es with
          | nil =>
            have : fs = [] := List.length_eq_zero_iff.mp h2
            subst this
            exact de_call0 kn g.room hk gl g.pass hdb
          | cons e es =>
            cases fs with
            | nil => cases h2
            | cons fa fs =>
              simp only [List.all_cons, Bool.and_eq_true, Bool.not_eq_true'] at h3
              exact de_call kn g.room hk gl g.pass h1 hdb (star_cons h3.1) (star_any h3.2)
      · cases h
    · cases h
  · cases h
def b1 (x : Str) : Option (D → M D) :=
  if x = "len" then some lenD else if x = "tuple" then some tupleD else if x = "list" then some listD else if x = "all" then some allD else if x = "any" then some anyD
  else if x = "int" then some intD else if x = "abs" then some absD else if x = "repr" then some reprD else none
def b2 (x : Str) : Option (D → D → M D) := if x = "max" then some maxD else if x = "min" then some minD else none
theorem b1_ok {C : Tc} {X : Cx} {E : EK} (g : Good C X E) {x : Str} {f : D → M D} (h : b1 x = some f) : (∃ id, bootBuiltins x = some (.builtin id) ∧ CallR X (.builtin id) (cOf1 X.K E f)) ∨ ∃ T, bootBuiltins x = some (.type T) ∧ CallR X (.type T) (cOf1 X.K E f) := by
  unfold b1 at h
  split at h
  · rename_i e; subst e; cases h; exact .inl ⟨"len", by decide +kernel, call_lenD⟩
  split at h
  · rename_i e; subst e; cases h; exact .inr ⟨"tuple", by decide +kernel, call_tupleD⟩
  split at h
  · rename_i e; subst e; cases h; exact .inr ⟨"list", by decide +kernel, call_listD⟩
  split at h
  · rename_i e; subst e; cases h; exact .inl ⟨"all", by decide +kernel, call_allD g.calm⟩
  split at h
  · rename_i e; subst e; cases h; exact .inl ⟨"any", by decide +kernel, call_anyD g.calm⟩
  split at h
  · rename_i e; subst e; cases h; exact .inr ⟨"int", by decide +kernel, call_intD⟩
  split at h
  · rename_i e; subst e; cases h; exact .inl ⟨"abs", by decide +kernel, call_absD⟩
  split at h
  · rename_i e; subst e; cases h; exact .inl ⟨"repr", by decide +kernel, call_reprD g.u70 g.room.2⟩
  · cases h
theorem b2_ok {C : Tc} {X : Cx} {E : EK} (g : Good C X E) {x : Str} {f : D → D → M D} (h : b2 x = some f) : ∃ id, bootBuiltins x = some (.builtin id) ∧ CallR X (.builtin id) (cOf2 X.K E f) := by
  unfold b2 at h
  split at h
  · rename_i e; subst e; cases h; exact ⟨"max", by decide +kernel, call_maxD g.calm⟩
  split at h
  · rename_i e; subst e; cases h; exact ⟨"min", by decide +kernel, call_minD g.calm⟩
  · cases h
def rBlt : RE := fun T C x => match x with
  | .Call (.Name x _) [a] [] _ => if C.blt x && !starred a then match b1 x with
      | some f => (T.e C a).map (un1 f)
      | none => none
    else none
  | .Call (.Name x _) [a, b] [] _ => if C.blt x && !starred a && !starred b then match b2 x with
      | some f => match T.e C a, T.e C b with
        | some fa, some fb => some (bin2 f fa fb)
        | _, _ => none
      | none => none
    else none
  | _ => none
theorem rBlt_ok : REok rBlt := by
  intro T hT C X E g x f h
  unfold rBlt at h
  split at h
  · rename_i x p a pos
    split at h
    · rename_i hg
      simp only [Bool.and_eq_true, Bool.not_eq_true'] at hg
      obtain ⟨gl, hm, hdb, hn⟩ := g.bl hg.1
      split at h
      · rename_i f hf
        cases q : T.e C a with
        | none => rw [q] at h; cases h
        | some fa =>
          rw [q] at h
          cases h
          rcases b1_ok g hf with ⟨id, h1, h2⟩ | ⟨id, h1, h2⟩
          · exact de_callB1 h2 gl hm h1 (hT.e g q) (star_cons hg.2) hn hdb
          · exact de_callT1 h2 gl hm h1 (hT.e g q) (star_cons hg.2) hn hdb
      · cases h
    · cases h
  · rename_i x p a b pos
    split at h
    · rename_i hg
      simp only [Bool.and_eq_true, Bool.not_eq_true'] at hg
      obtain ⟨gl, hm, hdb, hn⟩ := g.bl hg.1.1
      split at h
      · rename_i f hf
        split at h
        · rename_i h1 h2
          cases h
          obtain ⟨id, h3, h4⟩ := b2_ok g hf
          exact de_callB2 h4 gl hm h3 (hT.e g h1) (hT.e g h2) (star_two hg.1.2 hg.2) (star_cons hg.2) hn hdb
        · cases h
      · cases h
    · cases h
  · cases h
def isiT (x : Str) : Option String :=
  if x = "int" then some "int" else if x = "bool" then some "bool" else if x = "str" then some "str" else if x = "tuple" then some "tuple" else if x = "list" then some "list" else if x = "dict" then some "dict" else none
theorem isiT_ok {x : Str} {T : String} (h : isiT x = some T) : T ∈ isiTypes ∧ bootBuiltins x = some (.type T) := by
  unfold isiT at h
  split at h
  · rename_i e; subst e; cases h; exact ⟨by decide, by decide +kernel⟩
  split at h
  · rename_i e; subst e; cases h; exact ⟨by decide, by decide +kernel⟩
  split at h
  · rename_i e; subst e; cases h; exact ⟨by decide, by decide +kernel⟩
  split at h
  · rename_i e; subst e; cases h; exact ⟨by decide, by decide +kernel⟩
  split at h
  · rename_i e; subst e; cases h; exact ⟨by decide, by decide +kernel⟩
  split at h
  · rename_i e; subst e; cases h; exact ⟨by decide, by decide +kernel⟩
  · cases h
def rIsi : RE := fun T C x => match x with
  | .Call (.Name x _) [a, .Name y _] [] _ => if x = "isinstance" ∧ C.blt "isinstance" = true ∧ C.blt y = true ∧ starred a = false then match isiT y with
      | some t => (T.e C a).map (un1 (isInst t))
      | none => none
    else none
  | _ => none
theorem rIsi_ok : REok rIsi := by
  intro T hT C X E g x f h
  unfold rIsi at h
  split at h
  · rename_i x p a y p2 pos
    split at h
    · rename_i hg
      obtain ⟨rfl, hb, hy, hs⟩ := hg
      obtain ⟨gl, hm, hdb, hn⟩ := g.bl hb
      obtain ⟨gl2, hm2, hdb2, hn2⟩ := g.bl hy
      split at h
      · rename_i t ht
        obtain ⟨h1, h2⟩ := isiT_ok ht
        cases q : T.e C a with
        | none => rw [q] at h; cases h
        | some fa =>
          rw [q] at h
          cases h
          exact de_isi h1 gl hm gl2 hm2 h2 (hT.e g q) (star_two hs rfl) hn2 hdb2
      · cases h
    · cases h
  · cases h
/-! list(range(..)) -/
section
variable {X : Cx} {E : EK} {a b : Expr} {fa fb : Ex} {p p2 pos pos2 : Pos}
theorem repL_ints {K : PySem.W.Frag} {ρ : List Addr} {H : Hp} (i : Int) : ∀ l : List Nat, RepL K ρ H (l.map fun n : Nat => D.int (i + (n : Int))) (l.map fun n : Nat => V.int (i + (n : Int)))
  | [] => .nil
  | n :: l => .cons (.int _) (repL_ints i l)
theorem rgD {X : Cx} {ρ ρ0 : List Addr} {H H0 : Hp} {st : Sto} {x y : D} {v u : V} {Q : VK} (g : Grow ρ0 ρ H0 H) (rs : RepS X.K ρ H st) (rx : RepH X.K ρ H x v) (ry : RepH X.K ρ H y u) (w : Wp X.K E (listRange x y st) ρ0 H0 (Pd X.K H0 fun _ v _ _ H' => Q v H')) :
    ∃ i j, v = .int i ∧ u = .int j ∧ RgOk i j ∧ ∀ q, H q = none → Q (.ref q) (upd H q (.lst (rgV i j))) := by
  unfold listRange at w
  split at w
  · rename_i i j
    split at w
    · rename_i hc
      simp only [Bool.and_eq_true, decide_eq_true_eq] at hc
      obtain ⟨hz, h1, h2, h3, h4⟩ := hc
      have hz : (j - i).toNat ≤ sizeLine := of_decide_eq_true hz
      refine ⟨i, j, rx.int, ry.int, ⟨h1, h2, h3, h4, by rw [sizeLine_eq] at hz; omega⟩, fun q hq => ?_⟩
      refine Pd.tmp (Q := fun _ v _ _ H' => Q v H') w g rs hq ⟨_, rfl, ?_⟩
      exact repL_ints _ _
    · exact w.elim
  · exact w.elim
theorem de_lr2 (hc : X.calm = true) (hgl : Gl X "list") (hml : X.mg "list" = none) (hg : Gl X "range") (hm : X.mg "range" = none) (ha : DE X E a fa) (hb : DE X E b fb) (sa : starred a = false) (sb : starred b = false) :
    DE X E (.Call (.Name "list" p) [.Call (.Name "range" p2) [a, b] [] pos2] [] pos) (bin2 listRange fa fb) :=
  pe_imp (pe_listRg hc hgl hml (prg_2 hg hm ha hb (star_cons sa) (star_cons sb) (by rw [star_cons sb]; rfl)) (star_cons rfl)) fun σ H Q ⟨ρ, fr, st, rf, rs, w⟩ =>
    tOf.bnd rf rs w fun x v st1 ρ1 H1 g1 s1 rf1 rh f1 w1 => tOf.bnd rf1 s1 (w1.base g1) fun y u st2 ρ2 H2 g2 s2 rf2 rh2 f2 w2 =>
      rgD g2 s2 (rh.grow g2) rh2 (w2.mono fun d st ρ' H' g' s' k v rv fv => k v rv (fv.base g1))
theorem de_lr1 (hc : X.calm = true) (hgl : Gl X "list") (hml : X.mg "list" = none) (hg : Gl X "range") (hm : X.mg "range" = none) (ha : DE X E a fa) (sa : starred a = false) :
    DE X E (.Call (.Name "list" p) [.Call (.Name "range" p2) [a] [] pos2] [] pos) (un1 (listRange (.int 0)) fa) :=
  pe_imp (pe_listRg hc hgl hml (prg_1 hg hm ha (star_cons sa)) (star_cons rfl)) fun σ H Q ⟨ρ, fr, st, rf, rs, w⟩ =>
    tOf.bnd rf rs w fun x v st1 ρ1 H1 g1 s1 rf1 rh f1 w1 => by
      obtain ⟨i, j, e1, e2, h1, h2⟩ := rgD (v := .int 0) g1 s1 (.kept (.int 0)) rh w1
      cases e1
      exact ⟨j, e2, h1, h2⟩
end
def rLr : RE := fun T C x => match x with
  | .Call (.Name x _) [.Call (.Name y _) [a] [] _] [] _ => if x = "list" ∧ y = "range" ∧ C.blt "list" = true ∧ C.blt "range" = true ∧ starred a = false then (T.e C a).map (un1 (listRange (.int 0))) else none
  | .Call (.Name x _) [.Call (.Name y _) [a, b] [] _] [] _ => if x = "list" ∧ y = "range" ∧ C.blt "list" = true ∧ C.blt "range" = true ∧ starred a = false ∧ starred b = false then match T.e C a, T.e C b with
      | some fa, some fb => some (bin2 listRange fa fb)
      | _, _ => none
    else none
  | _ => none
theorem rLr_ok : REok rLr := by
  intro T hT C X E g x f h
  unfold rLr at h
  split at h
  · rename_i x p y p2 a pos2 pos
    split at h
    · rename_i hg
      obtain ⟨rfl, rfl, hl, hr, sa⟩ := hg
      obtain ⟨gl, hm, _, _⟩ := g.bl hl
      obtain ⟨gr, hmr, _, _⟩ := g.bl hr
      cases q : T.e C a with
      | none => rw [q] at h; cases h
      | some fa =>
        rw [q] at h
        cases h
        exact de_lr1 g.calm gl hm gr hmr (hT.e g q) sa
    · cases h
  · rename_i x p y p2 a b pos2 pos
    split at h
    · rename_i hg
      obtain ⟨rfl, rfl, hl, hr, sa, sb⟩ := hg
      obtain ⟨gl, hm, _, _⟩ := g.bl hl
      obtain ⟨gr, hmr, _, _⟩ := g.bl hr
      split at h
      · rename_i h1 h2
        cases h
        exact de_lr2 g.calm gl hm gr hmr (hT.e g h1) (hT.e g h2) sa sb
      · cases h
    · cases h
  · cases h
/-! methods -/
def rMeth : RE := fun T C x => match x with
  | .Call (.Attribute o m apos) [a] [] pos => if superish o = false ∧ (apos.endLine == pos.line) = true ∧ starred a = false then match T.e C o, T.e C a with
      | some fo, some fa => if m = "append" then some (meth1s ["list"] appendD fo fa) else if m = "extend" then some (meth1 ["list"] extendD fo fa) else if m = "pop" then some (meth1 ["list"] popD fo fa) else none
      | _, _ => none
    else none
  | .Call (.Attribute o m apos) [] [] pos => if superish o = false ∧ (apos.endLine == pos.line) = true ∧ m = "pop" then (T.e C o).map (meth0 ["list"] pop0D) else none
  | _ => none
theorem rMeth_ok : REok rMeth := by
  intro T hT C X E g x f h
  unfold rMeth at h
  split at h
  · rename_i o m apos a pos
    split at h
    · rename_i hg
      obtain ⟨ho, hl, sa⟩ := hg
      split at h
      · rename_i h1 h2
        split at h
        · rename_i e; subst e; cases h; exact de_meth1s served_append (hT.e g h1) (hT.e g h2) (base_plain ho) hl (star_cons sa)
        split at h
        · rename_i e; subst e; cases h; exact de_meth1 served_extend (hT.e g h1) (hT.e g h2) (base_plain ho) hl (star_cons sa)
        split at h
        · rename_i e; subst e; cases h; exact de_meth1 served_pop (hT.e g h1) (hT.e g h2) (base_plain ho) hl (star_cons sa)
        · cases h
      · cases h
    · cases h
  · rename_i o m apos pos
    split at h
    · rename_i hg
      obtain ⟨ho, hl, rfl⟩ := hg
      cases q : T.e C o with
      | none => rw [q] at h; cases h
      | some fo =>
        rw [q] at h
        cases h
        exact de_meth0 served_pop0 (hT.e g q) (base_plain ho) hl
    · cases h
  · cases h
/-! comprehensions -/
def trTests (f : Expr → Option Te) : List Expr → Option (List Te)
  | [] => some []
  | [c] => (f c).map fun t => [t]
  | _ => none
theorem trTests_ok {X : Cx} {f : Expr → Option Te} (hf : ∀ {x a}, f x = some a → DT X EK0 x a) {es : List Expr} {ts : List Te} (h : trTests f es = some ts) : DTs X es ts := by
  match es, h with
  | [], h => cases h; exact dts_nil
  | [c], h =>
    replace h : ((f c).map fun t => [t]) = some ts := h
    cases q : f c with
    | none => rw [q] at h; cases h
    | some t => rw [q] at h; cases h; exact dts_one (hf q)
  | _ :: _ :: _, h => cases h
/-- the parts of a comprehension -/
def lcParts (T : Trs) (C : Tc) (elt : Expr) (g : Comprehension) (scope : Scope) : Option Ex :=
  if settish g.iter = true ∨ g.is_async ≠ 0 ∨ blkC C.N C.sc scope (ownOf scope 0 C.N) = false then none
  else match T.i C g.target g.iter with
    | none => none
    | some it => match T.g (C.blk scope) ((ownOf scope 0 C.N).map (·.2)) g.target with
      | none => none
      | some t => match trTests (T.t (C.blk scope)) g.ifs with
        | none => none
        | some ts => match T.e (C.blk scope) elt with
          | none => none
          | some fe => some (lcE ((ownOf scope 0 C.N).map (·.2)) it t ts fe)
theorem lcParts_ok {T : Trs} (hT : Sound T) {C : Tc} {X : Cx} {E : EK} (g : Good C X E) {elt : Expr} {gen : Comprehension} {scope : Scope} {f : Ex} (h : lcParts T C elt gen scope = some f) :
    ∃ tg iter ifs it t ts fe, gen = ⟨tg, iter, ifs, 0⟩ ∧ f = lcE ((ownOf scope 0 C.N).map (·.2)) it t ts fe ∧ DI X E tg iter it ∧ BlkOk X.N X.env.scope scope (ownOf scope 0 C.N) ∧ (InBlk X scope fun Y => DG Y EK0 ((ownOf scope 0 C.N).map (·.2)) tg t) ∧
      (InBlk X scope fun Y => DTs Y ifs ts) ∧ (InBlk X scope fun Y => DE Y EK0 elt fe) ∧ ∀ x, foldedSetIterable iter X.env x = pure x := by
  obtain ⟨tg, iter, ifs, a⟩ := gen
  unfold lcParts at h
  split at h
  · cases h
  · rename_i hn
    simp only [not_or, Bool.not_eq_true, Decidable.not_not, Bool.not_eq_false] at hn
    obtain ⟨h1, h2, h3⟩ := hn
    cases (show a = 0 from h2)
    split at h
    · cases h
    · rename_i it hi
      split at h
      · cases h
      · rename_i t ht
        split at h
        · cases h
        · rename_i ts hts
          split at h
          · cases h
          · rename_i fe he
            cases h
            have ok : BlkOk X.N X.env.scope scope (ownOf scope 0 C.N) := by
              rw [g.N, g.sc]
              exact blkOk_by h3
            have gb := g.blk ok.kind
            exact ⟨tg, iter, ifs, it, t, ts, fe, rfl, rfl, hT.i g hi, ok, fun s H C' cl fp => hT.g (gb s H C' cl fp) ht, fun s H C' cl fp => trTests_ok (fun e => hT.t (gb s H C' cl fp) e) hts, fun s H C' cl fp => hT.e (gb s H C' cl fp) he, folded_plain h1⟩
def rLc : RE := fun T C x => match x with
  | .ListComp elt [g] scope _ => lcParts T C elt g scope
  | _ => none
theorem rLc_ok : REok rLc := by
  intro T hT C X E g x f h
  unfold rLc at h
  split at h
  · obtain ⟨tg, iter, ifs, it, t, ts, fe, rfl, rfl, h1, h2, h3, h4, h5, h6⟩ := lcParts_ok hT g h
    exact de_lc g.calm (by rw [g.N]; exact g.nd) h1 h2 h3 h4 h5 h6
  · cases h
/-! ### tests -/
def boolT (f : Expr → Option Te) (op : BoolOp) : List Expr → Option Te
  | [] => none
  | [a] => f a
  | a :: b :: rest => match f a with
    | none => none
    | some fa => match boolT f op (b :: rest) with
      | none => none
      | some fb => match op with
        | .And => some (andT fa fb)
        | .Or => some (orT fa fb)
theorem boolT_ok {X : Cx} {E : EK} {f : Expr → Option Te} (hf : ∀ {x a}, f x = some a → DT X E x a) {op : BoolOp} {pos : Pos} : ∀ {es : List Expr} {a : Te}, boolT f op es = some a → DW X E (.BoolOp op es pos) a
  | [], _, h => by cases h
  | [e], _, h => by
    cases op with
    | And => exact dw_and1 (hf h)
    | Or => exact dw_or1 (hf h)
  | e :: b :: rest, _, h => by
    unfold boolT at h
    split at h
    · cases h
    · rename_i fa h1
      split at h
      · cases h
      · rename_i fb h2
        cases op with
        | And => cases h; exact dw_and (hf h1) (boolT_ok hf h2)
        | Or => cases h; exact dw_or (hf h1) (boolT_ok hf h2)
noncomputable def rTest : RT := fun T C x => match x with
  | .UnaryOp .Not a _ => (T.t C a).map notT
  | .BoolOp op es _ => boolT (T.t C) op es
  | .Compare a [op] [b] _ => if behindInMarks op b then none else match T.e C a, T.e C b with
    | some fa, some fb => some (testE (bin2 (cmpD op) fa fb))
    | _, _ => none
  | .Compare a [op, op'] [b, c] _ => if lastMarks [op, op'] [b, c] then none else match T.e C a, T.e C b, T.e C c with
    | some fa, some fb, some fc => some (testE (chainE (cmpD op) (cmpD op') fa fb fc))
    | _, _, _ => none
  | .IfExp c a b _ => match T.t C c, T.t C a, T.t C b with
    | some tc, some fa, some fb => some (ifT tc fa fb)
    | _, _, _ => none
  | x => if plainT x then (T.e C x).map testE else none
theorem rTest_ok : RTok rTest := by
  intro T hT C X E g x f h
  unfold rTest at h
  split at h
  · rename_i a pos
    cases q : T.t C a with
    | none => rw [q] at h; cases h
    | some fa => rw [q] at h; cases h; exact dt_not (hT.t g q)
  · exact (boolT_ok (fun e => hT.t g e) h).pt
  · split at h
    · cases h
    · rename_i hm
      split at h
      · rename_i h1 h2
        cases h
        exact dt_cmp (cmpD_ok g _) (hT.e g h1) (hT.e g h2) (by simpa using hm)
      · cases h
  · split at h
    · cases h
    · rename_i hm
      split at h
      · rename_i h1 h2 h3
        cases h
        exact dt_chain (cmpD_ok g _) (cmpD_ok g _) (cmpD_bl _) (cmpD_bl _) (hT.e g h1) (hT.e g h2) (hT.e g h3) (by simpa using hm)
      · cases h
  · split at h
    · rename_i h1 h2 h3
      cases h
      exact dt_ifE (hT.t g h1) (hT.t g h2) (hT.t g h3)
    · cases h
  · split at h
    · rename_i hp
      cases q : T.e C x with
      | none => rw [q] at h; cases h
      | some fa => rw [q] at h; cases h; exact dt_plain (hT.e g q) (isTrue_plain hp)
    · cases h
/-! ### iterations -/
def rIter : RI := fun T C tg x => match x with
  | .Call (.Name y _) [a] [] _ => if C.blt y = true ∧ starred a = false then
      if y = "range" then (T.e C a).map range1I
      else if y = "enumerate" then match tg with
        | .Tuple _ _ _ => (T.e C a).map enumI
        | _ => none
      else (T.e C x).map seqI
    else (T.e C x).map seqI
  | .Call (.Name y _) [a, b] [] _ => if C.blt y = true ∧ starred a = false ∧ starred b = false ∧ y = "range" then match T.e C a, T.e C b with
      | some fa, some fb => some (rangeI fa fb)
      | _, _ => none
    else (T.e C x).map seqI
  | x => (T.e C x).map seqI
theorem rIter_ok : RIok rIter := by
  intro T hT C X E g tg x f h
  have sq : ∀ {x f}, (T.e C x).map seqI = some f → DI X E tg x f := fun {x f} h => by
    cases q : T.e C x with
    | none => rw [q] at h; cases h
    | some fa => rw [q] at h; cases h; exact di_seq (hT.e g q)
  unfold rIter at h
  split at h
  · rename_i y p a pos
    split at h
    · rename_i hg
      obtain ⟨hb, sa⟩ := hg
      split at h
      · rename_i e
        subst e
        obtain ⟨gl, hm, _, _⟩ := g.bl hb
        cases q : T.e C a with
        | none => rw [q] at h; cases h
        | some fa => rw [q] at h; cases h; exact di_range1 gl hm (hT.e g q) (star_cons sa)
      split at h
      · rename_i e
        subst e
        obtain ⟨gl, hm, _, _⟩ := g.bl hb
        split at h
        · cases q : T.e C a with
          | none => rw [q] at h; cases h
          | some fa => rw [q] at h; cases h; exact di_enum gl hm (hT.e g q) (star_cons sa)
        · cases h
      · exact sq h
    · exact sq h
  · rename_i y p a b pos
    split at h
    · rename_i hg
      obtain ⟨hb, sa, sb, e⟩ := hg
      subst e
      obtain ⟨gl, hm, _, _⟩ := g.bl hb
      split at h
      · rename_i h1 h2
        cases h
        exact di_range2 gl hm (hT.e g h1) (hT.e g h2) (star_two sa sb) (star_cons sb)
      · cases h
    · exact sq h
  · exact sq h
/-! ### targets -/
def trTgs (f : Expr → Option Tg) : List Expr → Option (List Tg)
  | [] => some []
  | e :: es => if starred e then none else match f e with
    | none => none
    | some a => match trTgs f es with
      | none => none
      | some as => some (a :: as)
theorem trTgs_ok {X : Cx} {E : EK} {sl : List Nat} {f : Expr → Option Tg} (hf : ∀ {x a}, f x = some a → DG X E sl x a) : ∀ {es : List Expr} {fs : List Tg}, trTgs f es = some fs → DGs X E sl es fs ∧ fs.length = es.length ∧ es.all (fun e => !starred e) = true
  | [], fs, h => by cases h; exact ⟨dgs_nil, rfl, rfl⟩
  | e :: es, fs, h => by
    unfold trTgs at h
    split at h
    · cases h
    · rename_i hs
      have hs : starred e = false := by simpa using hs
      split at h
      · cases h
      · rename_i a ha
        split at h
        · cases h
        · rename_i as q
          cases h
          obtain ⟨h1, h2, h3⟩ := trTgs_ok hf q
          exact ⟨dgs_cons (hf ha) h1 (by rw [assignEach_cons hs]; rfl), by simp [h2], by simp [hs, h3]⟩
/-- a name that may be stored: its slot -/
def Tc.put (C : Tc) (x : Str) : Option Nat :=
  if (C.sc.names.lookup x == some .local || (C.sc.names.lookup x == some .cell && C.fnc x)) = true then slot x C.N else none
theorem Good.put {C : Tc} {X : Cx} {E : EK} (g : Good C X E) {x : Str} {n : Nat} (h : C.put x = some n) : X.N[n]? = some x ∧ L2.Loc X.env.scope x ∧ (X.fn x = true ∨ X.env.scope.names.lookup x = some .local) := by
  unfold Tc.put at h
  split at h
  · rename_i hc
    simp only [Bool.or_eq_true, Bool.and_eq_true] at hc
    refine ⟨by rw [g.N]; exact slot_at h, ?_⟩
    unfold L2.Loc
    rw [g.sc]
    rcases hc with e | ⟨e1, e2⟩
    · exact ⟨.inl (eq_of_beq e), .inr (eq_of_beq e)⟩
    · exact ⟨.inr (eq_of_beq e1), .inl (g.fnc x e2)⟩
  · cases h
def rTgt : RG := fun T C sl x => match x with
  | .Name x _ => match C.put x with
    | some n => if sl.contains n then some (setT n) else none
    | none => none
  | .Tuple es _ _ => (trTgs (T.g C sl) es).map tupT
  | .Subscript o i _ => if sliced i then none else match T.e C o, T.e C i with
    | some fo, some fi => some (subT fo fi)
    | _, _ => none
  | _ => none
theorem rTgt_ok : RGok rTgt := by
  intro T hT C X E g sl x f h
  unfold rTgt at h
  split at h
  · split at h
    · rename_i n hn
      split at h
      · rename_i hs
        cases h
        obtain ⟨h1, h2, h3⟩ := g.put hn
        exact dg_name (by simpa using hs) (by rw [g.N]; exact g.nd) h1 h2 h3
      · cases h
    · cases h
  · rename_i es k pos
    cases q : trTgs (T.g C sl) es with
    | none => rw [q] at h; cases h
    | some ts =>
      rw [q] at h
      cases h
      obtain ⟨h1, h2, h3⟩ := trTgs_ok (fun e => hT.g g e) q
      obtain ⟨h4, h5⟩ := assignEach_len (env := X.env) h3
      exact dg_tup g.calm h1 (by rw [h4, h2]) h5
  · split at h
    · cases h
    · rename_i hs
      split at h
      · rename_i h1 h2
        cases h
        exact dg_sub (hT.e g h1) (hT.e g h2) (assign_sub (by simpa using hs))
      · cases h
  · cases h
end Ev
set_option Elab.async false
set_option linter.all false
set_option maxRecDepth 100000
set_option maxHeartbeats 4000000
/-! Ev, part 18: statements of the text, bodies, defs. -/
namespace Ev
open PySem PySem.Spec PyProof.Rows L2
abbrev RS := Trs → (List Stmt → Option S) → Tc → Stmt → Option S
def RSok (r : RS) : Prop := ∀ (T : Trs), Sound T → ∀ {C : Tc} {X : Cx} {E : EK}, Good C X E → ∀ (rec : List Stmt → Option S), (∀ {ss s}, rec ss = some s → DSs X E ss s) → ∀ {x f}, r T rec C x = some f → DS X E x f
def trSs (T : Trs) (R : List RS) (C : Tc) : Nat → List Stmt → Option S
  | 0, _ => none
  | _ + 1, [] => some nopS
  | n + 1, [st] => tryAll (fun r => r T (trSs T R C n) C st) R
  | n + 1, st :: st2 :: rest => match tryAll (fun r => r T (trSs T R C n) C st) R with
    | none => none
    | some s => match trSs T R C n (st2 :: rest) with
      | none => none
      | some t => some (seqS s t)
theorem trSs_ok {T : Trs} {R : List RS} {C : Tc} {X : Cx} {E : EK} (hT : Sound T) (hR : ∀ r ∈ R, RSok r) (g : Good C X E) : ∀ (n : Nat) {ss : List Stmt} {s : S}, trSs T R C n ss = some s → DSs X E ss s
  | 0, _, _, h => by cases h
  | n + 1, [], _, h => by cases h; exact dss_nil
  | n + 1, [st], _, h => by
    obtain ⟨r, m, q⟩ := tryAll_ok (show tryAll (fun r => r T (trSs T R C n) C st) R = _ from h)
    exact dss_one (hR r m T hT g _ (fun e => trSs_ok hT hR g n e) q)
  | n + 1, st :: st2 :: rest, _, h => by
    unfold trSs at h
    split at h
    · cases h
    · rename_i s hs
      split at h
      · cases h
      · rename_i t ht
        cases h
        obtain ⟨r, m, q⟩ := tryAll_ok hs
        exact dss_cons (hR r m T hT g _ (fun e => trSs_ok hT hR g n e) q) (trSs_ok hT hR g n ht)
/-! ### plain statements -/
def sPlain : RS := fun T rec C x => match x with
  | .Pass _ => some nopS
  | .Break _ => some brkS
  | .Expr (.Constant (.str _) _ _) _ => some nopS
  | .Expr e _ => if (compScope e).isNone then (T.e C e).map exprS else none
  | .Return (some e) _ => (T.e C e).map retS
  | .Return none _ => some retN
  | .If c a b _ => match T.t C c, rec a, rec b with
    | some tc, some fa, some fb => some (ifS tc fa fb)
    | _, _, _ => none
  | .While c b [] _ => match T.t C c, rec b with
    | some tc, some fb => some (whileS tc fb C.wf)
    | _, _ => none
  | .For tg iter b [] _ => if settish iter then none else match T.i C tg iter, T.g C (List.range C.N.length) tg, rec b with
    | some it, some t, some fb => some (forS it t fb)
    | _, _, _ => none
  | _ => none
theorem sPlain_ok : RSok sPlain := by
  intro T hT C X E g rec hrec x f h
  unfold sPlain at h
  split at h
  · cases h; exact ds_pass
  · cases h; exact ds_break
  · cases h; exact ds_doc
  · rename_i e pos _
    split at h
    · rename_i hc
      cases q : T.e C e with
      | none => rw [q] at h; cases h
      | some fe =>
        rw [q] at h
        cases h
        refine ds_expr (hT.e g q) (sw_none ?_)
        cases z : compScope e with
        | none => rfl
        | some _ => rw [z] at hc; cases hc
    · cases h
  · rename_i e pos
    cases q : T.e C e with
    | none => rw [q] at h; cases h
    | some fe => rw [q] at h; cases h; exact ds_ret (hT.e g q)
  · cases h; exact ds_retN
  · split at h
    · rename_i h1 h2 h3
      cases h
      exact ds_if (hT.t g h1) (hrec h2) (hrec h3)
    · cases h
  · split at h
    · rename_i h1 h2
      cases h
      exact ds_while _ g.own (hT.t g h1) (hrec h2)
    · cases h
  · split at h
    · cases h
    · rename_i hs
      split at h
      · rename_i h1 h2 h3
        cases h
        exact ds_for g.own g.calm (hT.i g h1) (hT.g g h2) (hrec h3) (folded_plain (by simpa using hs))
      · cases h
  · cases h
/-! ### assignments -/
/-- the slots of plain local names, all different -/
def slots3 (C : Tc) (x y z : Str) : Option (Nat × Nat × Nat) := match slot x C.N, slot y C.N, slot z C.N with
  | some i, some j, some k => if C.sc.names.lookup x = some .local ∧ C.sc.names.lookup y = some .local ∧ C.sc.names.lookup z = some .local ∧ i ≠ j ∧ i ≠ k ∧ j ≠ k then some (i, j, k) else none
  | _, _, _ => none
theorem eachT3 {fr : Fr} {st : Sto} {K : PySem.W.Frag} {ρ : List Addr} {H : Hp} {i j k : Nat} {d1 d2 d3 : D} {v1 v2 v3 : V} (r1 : Rep K ρ H d1 v1) (r2 : Rep K ρ H d2 v2) (r3 : Rep K ρ H d3 v3) :
    (eachT [setT i, setT j, setT k] [d1, d2, d3] fr st) = .ok (((fr.set i (some d1)).set j (some d2)).set k (some d3)) st := by
  have s1 : settle d1 st = .ok d1 st := by cases r1 <;> rfl
  have s2 : settle d2 st = .ok d2 st := by cases r2 <;> rfl
  have s3 : settle d3 st = .ok d3 st := by cases r3 <;> rfl
  show ((settle d1 st).bnd _).bnd _ = _
  rw [s1]
  show ((settle d2 st).bnd _).bnd _ = _
  rw [s2]
  show ((settle d3 st).bnd _).bnd _ = _
  rw [s3]
  rfl
section
variable {X : Cx} {E : EK} {a b c : Expr} {fa fb fc : Ex}
theorem ds_par3 {x y z : Str} {i j l : Nat} {px py pz pt pos pt2 : Pos} {kt k2 : Nat} (hc : X.calm = true) (hN : X.N.Nodup) (hi : X.N[i]? = some x) (hj : X.N[j]? = some y) (hl : X.N[l]? = some z) (hij : i ≠ j) (hil : i ≠ l) (hjl : j ≠ l)
    (hx : X.env.scope.names.lookup x = some .local) (hy : X.env.scope.names.lookup y = some .local) (hz : X.env.scope.names.lookup z = some .local) (ha : DA X E [a, b, c] (allS [fa, fb, fc]))
    (hw : swappedStores [.Tuple [.Name x px, .Name y py, .Name z pz] kt pt] (.Tuple [a, b, c] k2 pt2) X.env = pure (some [x, y, z])) (hs : swapsWithSole [.Tuple [.Name x px, .Name y py, .Name z pz] kt pt] (.Tuple [a, b, c] k2 pt2) pos.line X.env = pure false) :
    DS X E (.Assign [.Tuple [.Name x px, .Name y py, .Name z pz] kt pt] (.Tuple [a, b, c] k2 pt2) pos) (asgS (tupT [setT i, setT j, setT l]) (tupE [fa, fb, fc])) :=
  ps_imp (ps_par3 hc hN hi hj hl hij hil hjl hx hy hz ha hw hs) fun D σ H ⟨ρ, fr, st, rf, rs, w⟩ => by
    have w' : Wp X.K E ((allS [fa, fb, fc] fr st).bnd fun ds => bnd (tupT [setT i, setT j, setT l] (.tup ds) fr) fun fr => ret (.nx fr)) ρ H (FlP X.K H D) := by
      have : (asgS (tupT [setT i, setT j, setT l]) (tupE [fa, fb, fc]) fr st) = ((allS [fa, fb, fc] fr st).bnd fun ds => bnd (tupT [setT i, setT j, setT l] (.tup ds) fr) fun fr => ret (.nx fr)) := by
        show ((allS [fa, fb, fc] fr st).bnd _).bnd _ = _
        cases allS [fa, fb, fc] fr st <;> rfl
      rw [this] at w
      exact w
    refine tArgs.bnd rf rs w' fun ds vs st1 ρ1 H1 g1 s1 rf1 q w1 => ?_
    have w2 : Wp X.K E ((if ds.length = 3 then eachT [setT i, setT j, setT l] ds fr st1 else .stuck).bnd fun fr => ret (.nx fr)) ρ H (FlP X.K H D) := w1
    split at w2
    · rename_i h3
      match ds, h3, q, w2 with
      | [d1, d2, d3], _, .cons r1 (.cons r2 (.cons r3 .nil)), w2 =>
        rw [eachT3 r1 r2 r3] at w2
        exact ⟨_, _, _, rfl, w2 ρ1 H1 g1 s1 _ (((rf1.set r1 i).set r2 j).set r3 l)⟩
    · exact w2.elim
end
def sAsg : RS := fun T rec C x => match x with
  | .Assign [t] v pos => if starred t then none else match ssB t v C.sc with
    | none => none
    | some none =>
      if swB v t C.sc then match t with
        | .Name x _ => match v with
          | .ListComp elt [gen] scope p2 => match C.sc.names.lookup x with
            | some .local => match slot x C.N with
              | some i => (lcParts T C elt gen scope).map (asgS (setT i))
              | none => none
            | _ => none
          | _ => none
        | _ => none
      else match t with
        | .Name x _ => match C.put x with
          | some i => (T.e C v).map (asgS (setT i))
          | none => none
        | t => match T.e C v, T.g C (List.range C.N.length) t with
          | some fe, some ft => some (asgS ft fe)
          | _, _ => none
    | some (some ns) => match t with
      | .Tuple [.Name x _, .Name y _] _ _ => match v with
        | .Tuple [a, b] _ _ => if ns = [x, y] ∧ C.sc.names.lookup x = some .local ∧ C.sc.names.lookup y = some .local then match slot x C.N, slot y C.N with
            | some i, some j => if i ≠ j then match trAll (T.e C) [a, b] with
                | some [fa, fb] => some (asgS (tupT [setT i, setT j]) (tupE [fa, fb]))
                | _ => none
              else none
            | _, _ => none
          else none
        | _ => none
      | .Tuple [.Name x _, .Name y _, .Name z _] _ _ => match v with
        | .Tuple [a, b, c] _ _ => if ns = [x, y, z] then match slots3 C x y z with
            | some (i, j, k) => match trAll (T.e C) [a, b, c] with
                | some [fa, fb, fc] => some (asgS (tupT [setT i, setT j, setT k]) (tupE [fa, fb, fc]))
                | _ => none
            | none => none
          else none
        | _ => none
      | _ => none
  | _ => none
theorem swSole {value t : Expr} {l : Nat} {env : Env} (h : env.scope.kind = .function) : swapsWithSole [t] value l env = pure (swB value t env.scope) := sw_eq h
theorem sAsg_ok : RSok sAsg := by
  intro T hT C X E g rec hrec x f h
  have hk : X.env.scope.kind = .function := by rw [g.sc]; exact g.kind
  have nd : X.N.Nodup := by rw [g.N]; exact g.nd
  unfold sAsg at h
  split at h
  · rename_i t v pos
    split at h
    · cases h
    · rename_i hst
      have hst : starred t = false := by simpa using hst
      split at h
      · cases h
      · rename_i hss
        have hw := ss_eq hk (by rw [g.sc]; exact hss)
        split at h
        · rename_i hsw
          split at h
          · rename_i x px
            split at h
            · rename_i elt gen scope p2
              split at h
              · rename_i hloc
                split at h
                · rename_i i hi
                  cases q : lcParts T C elt gen scope with
                  | none => rw [q] at h; cases h
                  | some fe =>
                    rw [q] at h
                    cases h
                    obtain ⟨tg, iter, ifs, it, t, ts, fe, rfl, rfl, h1, h2, h3, h4, h5, h6⟩ := lcParts_ok hT g q
                    exact ds_setLc g.calm nd (by rw [g.N]; exact slot_at hi) (by rw [g.sc]; exact hloc) (by rw [sw_eq hk, g.sc, hsw]) h1 h2 h3 h4 h5 h6
                · cases h
              · cases h
            · cases h
          · cases h
        · rename_i hsw
          have hsw : swB v t X.env.scope = false := by rw [g.sc]; simpa using hsw
          split at h
          · rename_i x px
            split at h
            · rename_i i hi
              cases q : T.e C v with
              | none => rw [q] at h; cases h
              | some fe =>
                rw [q] at h
                cases h
                obtain ⟨h1, h2, h3⟩ := g.put hi
                exact ds_set nd h1 h2 (hT.e g q) (by rw [sw_eq hk, hsw]) h3
            · cases h
          · split at h
            · rename_i h1 h2
              cases h
              exact ds_asg (hT.e g h1) (hT.g g h2) (by rw [swSole hk, hsw]) hw (by rw [assignEach_cons hst]; rfl)
            · cases h
      · rename_i ns hss
        have hw := ss_eq hk (by rw [g.sc]; exact hss)
        split at h
        · rename_i x px y py kt pt
          split at h
          · rename_i a b k2 pt2
            split at h
            · rename_i hc
              obtain ⟨rfl, hx, hy⟩ := hc
              split at h
              · rename_i i j hi hj
                split at h
                · rename_i hij
                  split at h
                  · rename_i fa fb q
                    cases h
                    obtain ⟨h1, _, _⟩ := trAll_ok (fun e => hT.e g e) q
                    exact ds_par g.calm nd (by rw [g.N]; exact slot_at hi) (by rw [g.N]; exact slot_at hj) hij (by rw [g.sc]; exact hx) (by rw [g.sc]; exact hy) h1 hw (by rw [swSole hk]; rfl)
                  · cases h
                · cases h
              · cases h
            · cases h
          · cases h
        · rename_i x px y py z pz kt pt
          split at h
          · rename_i a b c k2 pt2
            split at h
            · rename_i hc
              subst hc
              split at h
              · rename_i i j k hs3
                unfold slots3 at hs3
                split at hs3
                · rename_i i' j' k' hi hj hl
                  split at hs3
                  · rename_i hcc
                    obtain ⟨hx, hy, hz, e1, e2, e3⟩ := hcc
                    cases hs3
                    split at h
                    · rename_i fa fb fc q
                      cases h
                      obtain ⟨h1, _, _⟩ := trAll_ok (fun e => hT.e g e) q
                      exact ds_par3 g.calm nd (by rw [g.N]; exact slot_at hi) (by rw [g.N]; exact slot_at hj) (by rw [g.N]; exact slot_at hl) e1 e2 e3 (by rw [g.sc]; exact hx) (by rw [g.sc]; exact hy) (by rw [g.sc]; exact hz) h1 hw (by rw [swSole hk]; rfl)
                    · cases h
                  · cases hs3
                · cases hs3
              · cases h
            · cases h
          · cases h
        · cases h
  · cases h
/-! ### a def -/
/-- where a def stands, what it knows -/
structure World0 (P : Program) (w : World) (K : PySem.W.Frag) (mg : Str → Option Value) (base : Heap) (C : Tc) : Prop where
  G : ∀ x i, C.G.lookup x = some i → Knows P w K mg base x i ∧ i.k ≤ C.j
  V : ∀ x d, C.V.lookup x = some d → ∃ u v, mg x = some u ∧ RelV v u ∧ GloV K d v
  B : ∀ x, C.B.contains x = true → mg x = none
theorem def_ok {P : Program} {w : World} {K : PySem.W.Frag} {mg : Str → Option Value} {base : Heap} {x qual : Str} {params : Arguments} {body : List Stmt} {scope : Scope} {kws : List (Str × V)} {f : Addr} {fd : FuncData} {ps : List Str} {m n : Nat} {b : S} {C : Tc} {T : Trs} {R : List RS}
    (hT : Sound T) (hR : ∀ r ∈ R, RSok r) (W : World0 P w K mg base C) (F : FunD K x qual params body scope [] kws f fd) (S : FnScope C.N ps scope) (hsc : C.sc = scope) (hf : C.fnc = fun _ => true) (hm : C.N.length = ps.length + m) (tr : trSs T R C n body = some b) :
    FnG P w K mg base (CX P w) (C.j + 1) f fd ps (spOf K ps.length (fnD ps.length m b)) := by
  refine fn_ok F S hm fun cdv A outer s H E EE room hg hE => ?_
  refine trSs_ok hT hR ⟨rfl, hsc.symm, by rw [hsc]; exact S.kind, S.nd, rfl, ⟨room, hg⟩, fun _ _ => rfl, W.G, W.V, W.B, ?_, PassesOwn.leaving⟩ n tr
  exact fun pins σ H s e s' I ⟨_, _, _, _, _, _, _, _, _, _, _, _, z⟩ => z.elim
/-- .. and may be called by its name -/
theorem def_knows {P : Program} {w : World} {K : PySem.W.Frag} {mg : Str → Option Value} {base : Heap} {x qual : Str} {params : Arguments} {body : List Stmt} {scope : Scope} {kws : List (Str × V)} {f : Addr} {fd : FuncData} {ps : List Str} {k : Nat} {g : Fn}
    (F : FunD K x qual params body scope [] kws f fd) (hm : mg x = some (.ref f)) (b : Binds K fd ps []) (h : FnG P w K mg base (CX P w) k f fd ps (spOf K ps.length g)) : Knows P w K mg base x ⟨ps.length, g, k⟩ :=
  ⟨⟨f, fd, ps, h, hm, F.kp, b⟩⟩
end Ev
set_option Elab.async false
set_option linter.all false
set_option maxRecDepth 100000
set_option maxHeartbeats 4000000
/-! Ev, part 19: dicts with plain keys: comprehensions, {}, dict(pairs). -/
namespace Ev
open PySem PySem.Spec PyProof.Rows L2
def keyOf : D → Option NestedKey
  | .int i => some (.num i)
  | .str s => some (.text s)
  | _ => none
def putD (kvs : List (NestedKey × D)) (k : NestedKey) (d : D) : List (NestedKey × D) :=
  if (kvs.any fun kv => decide (kv.1 = k)) = true then kvs.map (fun kv => if kv.1 = k then (kv.1, d) else kv) else kvs ++ [(k, d)]
def mergeD (kvs more : List (NestedKey × D)) : List (NestedKey × D) := more.foldl (fun acc kv => putD acc kv.1 kv.2) kvs
theorem kN_inj {a b : L2.Key} : kN a = kN b ↔ a = b := by
  constructor
  · intro h
    cases a <;> cases b <;> cases h <;> rfl
  · rintro rfl; rfl
section
variable {K : PySem.W.Frag} {ρ : List Addr} {H : Hp}
theorem key_of {d : D} {v : V} {k : NestedKey} (r : RepH K ρ H d v) (h : keyOf d = some k) : ∃ kk, k = kN kk ∧ v = kV kk := by
  cases d with
  | int i => cases h; exact ⟨.inl i, rfl, r.int⟩
  | str s => cases h; exact ⟨.inr s, rfl, r.str⟩
  | _ => cases h
theorem RepKV.any {ds : List (NestedKey × D)} {vs : List (L2.Key × V)} (r : RepKV K ρ H ds vs) (k : L2.Key) : (ds.any fun kv => decide (kv.1 = kN k)) = vs.any fun kv => decide (kv.1 = k) := by
  induction r with
  | nil => rfl
  | @cons k' d v ds vs h r ih =>
    rw [List.any_cons, List.any_cons, ih]
    congr 1
    exact decide_eq_decide.mpr kN_inj
theorem RepKV.repl {ds : List (NestedKey × D)} {vs : List (L2.Key × V)} (r : RepKV K ρ H ds vs) (k : L2.Key) {d : D} {v : V} (h : Rep K ρ H d v) : RepKV K ρ H (ds.map fun kv => if kv.1 = kN k then (kv.1, d) else kv) (vs.map fun kv => if kv.1 = k then (kv.1, v) else kv) := by
  induction r with
  | nil => exact .nil
  | @cons k' d' v' ds vs h' r ih =>
    rw [List.map_cons, List.map_cons]
    by_cases e : k' = k
    · rw [if_pos (kN_inj.mpr e), if_pos e]
      exact .cons h ih
    · rw [if_neg (fun z => e (kN_inj.mp z)), if_neg e]
      exact .cons h' ih
theorem RepKV.snoc {ds : List (NestedKey × D)} {vs : List (L2.Key × V)} (r : RepKV K ρ H ds vs) (k : L2.Key) {d : D} {v : V} (h : Rep K ρ H d v) : RepKV K ρ H (ds ++ [(kN k, d)]) (vs ++ [(k, v)]) := by
  induction r with
  | nil => exact .cons h .nil
  | cons h' r ih => exact .cons h' ih
theorem RepKV.put {ds : List (NestedKey × D)} {vs : List (L2.Key × V)} (r : RepKV K ρ H ds vs) (k : L2.Key) {d : D} {v : V} (h : Rep K ρ H d v) : RepKV K ρ H (putD ds (kN k) d) (putK vs k v) := by
  unfold putD putK
  rw [r.any k]
  split
  · exact r.repl k h
  · exact r.snoc k h
theorem putD_len (kvs : List (NestedKey × D)) (k : NestedKey) (d : D) : (putD kvs k d).length ≤ kvs.length + 1 := by
  unfold putD
  split <;> simp
theorem RepKV.merge {es : List (NestedKey × D)} {ws : List (L2.Key × V)} (q : RepKV K ρ H es ws) : ∀ {ds : List (NestedKey × D)} {vs : List (L2.Key × V)}, RepKV K ρ H ds vs → RepKV K ρ H (mergeD ds es) (mergeK vs ws) := by
  induction q with
  | nil => exact fun r => r
  | cons h q ih => exact fun r => ih (r.put _ h)
end
/-! ### comprehensions -/
def keyM (y : D) : M NestedKey := fun st => match keyOf y with
  | some k => .ok k st
  | none => .stuck
def dcLoop (t : Tg) (ifs : List Te) (k e : Ex) (fr : Fr) : List D → List (NestedKey × D) → M (List (NestedKey × D))
  | [], acc => ret acc
  | x :: xs, acc => bnd (t x fr) fun fr1 => bnd (allT ifs fr1) fun b => if b then bnd (k fr1) fun y => bnd (e fr1) fun d => bnd (settle d) fun d => bnd (keyM y) fun y => dcLoop t ifs k e fr xs (putD acc y d)
    else dcLoop t ifs k e fr xs acc
def dcE (own : List Nat) (it : It) (t : Tg) (ifs : List Te) (k e : Ex) : Ex := fun fr => bnd (it fr) fun s => bnd (locked0 s.locks (dcLoop t ifs k e (wipe fr own) s.items [])) fun ds => ret (.tmp (.dct ds))
section
variable {X : Cx} {E : EK} {own : List Nat} {it : Ev.It} {t : Tg} {ts : List Te} {fk fe : Ex}
theorem dc_inner {σ : L2.St} {H : Hp} {Q : D → V → Sto → List Addr → Hp → Prop} {ρ : List Addr} {fr : Fr} {st : Sto} (rf : RepF X.K ρ H fr σ) (rs : RepS X.K ρ H st)
    (w : Wp X.K E (dcE own it t ts fk fe fr st) ρ H (Pd X.K H Q)) :
    ∀ QQ : VK, (∀ v H', (∃ ns d st' ρ', RepH X.K ρ' H' (.tmp (.dct d)) v ∧ Fresh H (.tmp (.dct d)) v ∧ LocksOk X H ρ' H' ns ∧ Grow ρ ρ' H H' ∧ RepS X.K ρ' H' st' ∧ Wp X.K E (.ok (.tmp (.dct d)) (unlocks ns st')) ρ H (Pd X.K H Q)) → QQ v H') →
    tDc (tIt X E it) (tTg X.K EK0 own t) (Ev.tTest X.K EK0 (allT ts)) (tOf X.K EK0 fk) (tOf X.K EK0 fe) own σ H QQ := by
  intro QQ kk
  have w' : Wp X.K E ((it fr st).bnd fun q => bnd (locked0 q.locks (dcLoop t ts fk fe (Ev.wipe fr own) q.items [])) fun ds => (ret (Ev.D.tmp (Cell.dct ds)) : M Ev.D)) ρ H (Pd X.K H Q) := w
  refine ⟨ρ, fr, st, rf, rs, w'.bnd.mono fun q st1 ρ1 H1 g1 s1 w1 lk hz J WJ D hD => ?_⟩
  have rfw : RepF X.K ρ1 H1 (Ev.wipe fr own) (L2.wipe σ own) := (rf.stay g1.stay).wipe own
  have nD : D ∉ ρ1 := s1.out hD
  refine ⟨fun i m H' => m = q.items.length - i ∧ i ≤ q.items.length ∧ ∃ st' ρ' acc vs, Grow ρ1 ρ' H1 H' ∧ RepS X.K ρ' H' st' ∧ D ∉ ρ' ∧ H' D = some (.dK vs) ∧ RepKV X.K ρ' H' acc vs ∧ acc.length ≤ i ∧
    Wp X.K E (((dcLoop t ts fk fe (Ev.wipe fr own) (q.items.drop i) acc st').unl0 q.locks).bnd (β := Ev.D) fun ds => (ret (Ev.D.tmp (Cell.dct ds)) : M Ev.D)) ρ H (Pd X.K H Q), ⟨_, rfl, Nat.zero_le _, st1, ρ1, [], [], .new hD, s1.new hD, nD, upd_same, .nil, Nat.le_refl _, w1⟩, ?_⟩
  rintro i m H2 ⟨rfl, hi, st2, ρ2, acc, vs, g2, s2, n2, h2, l2, ha, w2⟩
  by_cases hlt : i < q.items.length
  · refine .inr ⟨WJ.go i ρ2 H2 g2 hlt, fun H' => ∃ st' ρ' acc vs, Grow ρ1 ρ' H1 H' ∧ RepS X.K ρ' H' st' ∧ D ∉ ρ' ∧ H' D = some (.dK vs) ∧ RepKV X.K ρ' H' acc vs ∧ acc.length ≤ i + 1 ∧
      Wp X.K E (((dcLoop t ts fk fe (Ev.wipe fr own) (q.items.drop (i + 1)) acc st').unl0 q.locks).bnd (β := Ev.D) fun ds => (ret (Ev.D.tmp (Cell.dct ds)) : M Ev.D)) ρ H (Pd X.K H Q), fun H' n => ⟨q.items.length - (i + 1), by omega, rfl, hlt, n⟩, fun x H3 y => ?_⟩
    obtain ⟨d, ed, rd, g3, s3⟩ := WJ.yld i ρ2 H2 st2 x H3 g2 s2 hlt y
    have edrop : q.items.drop i = d :: q.items.drop (i + 1) := by
      have e1 := List.drop_eq_getElem_cons hlt
      rw [List.getElem?_eq_getElem hlt] at ed
      cases ed
      exact e1
    rw [edrop] at w2
    have gg : Grow ρ1 ρ2 H1 H3 := g2.trans g3
    have g03 : Grow ρ ρ2 H H3 := g1.trans gg
    have w3 : Wp X.K E ((((t d (Ev.wipe fr own) st2).bnd fun fr1 => bnd (allT ts fr1) fun b => if b then bnd (fk fr1) fun y => bnd (fe fr1) fun d => bnd (settle d) fun d => bnd (keyM y) fun y => dcLoop t ts fk fe (Ev.wipe fr own) (q.items.drop (i + 1)) (putD acc y d) else dcLoop t ts fk fe (Ev.wipe fr own) (q.items.drop (i + 1)) acc).unl0 q.locks).bnd (β := Ev.D) fun ds => (ret (Ev.D.tmp (Cell.dct ds)) : M Ev.D)) ρ H (Pd X.K H Q) := w2
    have h3 : H3 D = some (.dK vs) := g3.keep D _ h2 n2
    refine ⟨ρ2, H3, ρ2, Ev.wipe fr own, st2, d, .refl, rfw.stay gg.stay, s3, .kept rd, Fresh.kept rd, ((Wp.unl0 (E' := EK0) w3).base g03).mono fun fr4 st4 ρ4 H4 g4 s4 w4 σ4 rf4 of4 => ?_⟩
    refine ⟨wipe_off of4, ?_⟩
    have w5 : Wp X.K E ((((allT ts fr4 st4).bnd fun b => if b then bnd (fk fr4) fun y => bnd (fe fr4) fun d => bnd (settle d) fun d => bnd (keyM y) fun y => dcLoop t ts fk fe (Ev.wipe fr own) (q.items.drop (i + 1)) (putD acc y d) else dcLoop t ts fk fe (Ev.wipe fr own) (q.items.drop (i + 1)) acc).unl0 q.locks).bnd (β := Ev.D) fun ds => (ret (Ev.D.tmp (Cell.dct ds)) : M Ev.D)) ρ H (Pd X.K H Q) := w4
    obtain ⟨n4, h4⟩ := g4.outside n2 h3
    refine ⟨ρ4, fr4, st4, rf4, s4, ((Wp.unl0 (E' := EK0) w5).base (g03.trans g4)).mono fun b st5 ρ5 H5 g5 s5 w6 => ?_⟩
    obtain ⟨n5, h5⟩ := g5.outside n4 h4
    have g35 : Grow ρ2 ρ5 H3 H5 := g4.trans g5
    have g15 : Grow ρ1 ρ5 H1 H5 := gg.trans g35
    have l5 : RepKV X.K ρ5 H5 acc vs := (l2.stay g3.stay).stay g35.stay
    cases b with
    | false => exact ⟨st5, ρ5, acc, vs, g15, s5, n5, h5, l5, Nat.le_succ_of_le ha, w6⟩
    | true =>
      rw [if_pos rfl]
      have w7 : Wp X.K E ((((fk fr4 st5).bnd fun y => bnd (fe fr4) fun d => bnd (settle d) fun d => bnd (keyM y) fun y => dcLoop t ts fk fe (Ev.wipe fr own) (q.items.drop (i + 1)) (putD acc y d)).unl0 q.locks).bnd (β := Ev.D) fun ds => (ret (Ev.D.tmp (Cell.dct ds)) : M Ev.D)) ρ H (Pd X.K H Q) := w6
      refine ⟨ρ5, fr4, st5, rf4.stay g5.stay, s5, ((Wp.unl0 (E' := EK0) w7).base (g1.trans g15)).mono fun y st6 ρ6 H6 g6 s6 w8 yv ry fy => ?_⟩
      obtain ⟨n6, h6⟩ := g6.outside n5 h5
      have w9 : Wp X.K E ((((fe fr4 st6).bnd fun d => bnd (settle d) fun d => bnd (keyM y) fun y => dcLoop t ts fk fe (Ev.wipe fr own) (q.items.drop (i + 1)) (putD acc y d)).unl0 q.locks).bnd (β := Ev.D) fun ds => (ret (Ev.D.tmp (Cell.dct ds)) : M Ev.D)) ρ H (Pd X.K H Q) := w8
      have g16 : Grow ρ1 ρ6 H1 H6 := g15.trans g6
      refine ⟨ρ6, fr4, st6, (rf4.stay g5.stay).stay g6.stay, s6, ((Wp.unl0 (E' := EK0) w9).base (g1.trans g16)).mono fun z st7 ρ7 H7 g7 s7 w10 zv rz fz => ?_⟩
      obtain ⟨n7, h7⟩ := g7.outside n6 h6
      have g17 : Grow ρ1 ρ7 H1 H7 := g16.trans g7
      have w11 : Wp X.K E ((((settle z st7).bnd fun d => bnd (keyM y) fun y => dcLoop t ts fk fe (Ev.wipe fr own) (q.items.drop (i + 1)) (putD acc y d)).unl0 q.locks).bnd (β := Ev.D) fun ds => (ret (Ev.D.tmp (Cell.dct ds)) : M Ev.D)) ρ H (Pd X.K H Q) := w10
      cases hk : keyOf y with
      | none =>
        have ek : keyM y = stk := by funext st; unfold keyM; rw [hk]; rfl
        rw [ek] at w11
        have : (((settle z st7).bnd fun d => bnd (stk : M NestedKey) fun y => dcLoop t ts fk fe (Ev.wipe fr own) (q.items.drop (i + 1)) (putD acc y d)).unl0 q.locks) = .stuck := by cases z <;> rfl
        rw [this] at w11
        exact w11.elim
      | some k =>
        obtain ⟨kk', rfl, rfl⟩ := key_of ry hk
        have ek : keyM y = ret (kN kk') := by funext st; unfold keyM; rw [hk]; rfl
        rw [ek] at w11
        have fz' : Fresh H z zv := fz.base (g1.trans g16)
        have w12 : Wp X.K E ((settle z st7).bnd fun d => (fun st => ((dcLoop t ts fk fe (Ev.wipe fr own) (q.items.drop (i + 1)) (putD acc (kN kk') d) st).unl0 q.locks).bnd (β := Ev.D) fun ds => (ret (Ev.D.tmp (Cell.dct ds)) : M Ev.D))) ρ H (Pd X.K H Q) := by
          have : (((settle z st7).bnd fun d => bnd (ret (kN kk')) fun y => dcLoop t ts fk fe (Ev.wipe fr own) (q.items.drop (i + 1)) (putD acc y d)).unl0 q.locks).bnd (fun ds => (ret (Ev.D.tmp (Cell.dct ds)) : M Ev.D)) = (settle z st7).bnd fun d => (fun st => ((dcLoop t ts fk fe (Ev.wipe fr own) (q.items.drop (i + 1)) (putD acc (kN kk') d) st).unl0 q.locks).bnd (β := Ev.D) fun ds => (ret (Ev.D.tmp (Cell.dct ds)) : M Ev.D)) := by
            cases z <;> rfl
          rw [← this]
          exact w11
        have nzD : ∀ c a, z = .tmp c → zv = .ref a → a ≠ D := fun c a e1 e2 e3 => by
          have := fz c a e1 e2
          rw [e3, h6] at this
          cases this
        obtain ⟨z', ρ8, st8, g8, y8, s8, r8, w13, no8, gr8⟩ := settled2 w12 ((g1.trans g16).trans g7) s7 rz fz'
        have n8 : D ∉ ρ8 := no8 D n7 fun c e1 e2 => nzD c D e1 e2 rfl
        have fz1 : Fresh H1 z zv := fz.base g16
        have g18 : Grow ρ1 ρ8 H1 H7 := gr8 ρ1 H1 g17 fz1
        have sl : Stay ρ8 ρ8 H7 (upd H7 D (.dK (putK vs kk' zv))) := ⟨⟨[], by simp⟩, fun b ys e => by rw [upd_ne (fun z => by rw [z, h7] at e; cases e)]; exact e, fun b o w e n => ⟨n, by rw [upd_ne (fun z => by rw [z, h7] at e; cases e)]; exact e⟩⟩
        have l8 : RepKV X.K ρ8 H7 acc vs := ((l5.stay g6.stay).stay g7.stay).stay y8
        refine ⟨vs, kk', rfl, h7, by rw [← l5.length]; omega, st8, ρ8, putD acc (kN kk') z', putK vs kk' zv, g18.other hD, s8.out2 sl (fun a ha => upd_ne fun e => n8 (by rw [← e]; exact ha)), n8, upd_same, (l8.put kk' r8).stay sl, ?_, w13⟩
        have := putD_len acc (kN kk') z'
        omega
  · have e : i = q.items.length := by omega
    subst e
    rw [List.drop_length] at w2
    exact .inl ⟨WJ.stop ρ2 H2 g2, kk _ _ ⟨q.locks, acc, st2, ρ2, RepH.tmp n2 h2 ⟨vs, rfl, l2⟩, fun c a _ e => by cases e; exact g1.free hD, lk.grow g2, g1.trans g2, s2, w2⟩⟩
end
section
variable {X : Cx} {E : EK} {kx vx tg iter : Expr} {ifs : List Expr} {scope : Scope} {own : List (Str × Nat)} {pos : Pos} {it : Ev.It} {t : Tg} {ts : List Te} {fk fe : Ex}
theorem de_dc (hc : X.calm = true) (hN : X.N.Nodup) (hi : DI X E tg iter it) (ok : BlkOk X.N X.env.scope scope own) (hg : InBlk X scope fun Y => DG Y EK0 (own.map (·.2)) tg t) (ht : InBlk X scope fun Y => DTs Y ifs ts) (hk : InBlk X scope fun Y => DE Y EK0 kx fk) (he : InBlk X scope fun Y => DE Y EK0 vx fe) (hs : ∀ x, foldedSetIterable iter X.env x = pure x) :
    DE X E (.DictComp kx vx [⟨tg, iter, ifs, 0⟩] scope pos) (dcE (own.map (·.2)) it t ts fk fe) := by
  refine ⟨fun pins s σ H Q I h => ?_⟩
  obtain ⟨ρ, fr, st, rf, rs, w⟩ := h
  refine thn ((pe_dc (pos := pos) (g := tTg X.K EK0 (own.map (·.2)) t) (tt := Ev.tTest X.K EK0 (allT ts)) (tk := tOf X.K EK0 fk) (tv := tOf X.K EK0 fe) hc hN hi ok hg (fun s H C cl fp => show PTs _ ifs (Ev.tTest X.K EK0 (allT ts)) from ht s H C cl fp) hk he hs).run pins s σ H _ I (dc_inner rf rs w _ fun _ _ q => q)) fun x s1 r => ?_
  obtain ⟨v, H', I', rv, ns, d, st', ρ', rd, fd, lk, g, s', w2⟩ := r
  obtain ⟨H2, I2, s2, g2, sy, k⟩ := unlock_all ns I' s' lk g
  exact ⟨v, H2, I2, rv, w2 ρ' H2 g2 s2 v (rd.out sy k) fd⟩
/-! ### {}, dict(pairs) -/
def newD : Ex := fun _ => ret (.tmp (.dct []))
theorem de_dnew : DE X E (.Dict [] [] pos) newD := pe_imp pe_dnewK fun σ H Q ⟨ρ, fr, st, rf, rs, w⟩ p hp =>
  Pd.tmp (Q := fun _ v _ _ H' => Q v H') w .refl rs hp ⟨[], rfl, .nil⟩
def pairL : List D → Option (NestedKey × D)
  | [] => none
  | k :: r => match r with
    | [] => none
    | v :: r => match r with
      | [] => match keyOf k with
        | some k => some (k, v)
        | none => none
      | _ :: _ => none
def pairD (x : D) : Option (NestedKey × D) := match x with
  | .tup xs => pairL xs
  | .row xs => pairL xs
  | _ => none
def pairsD : List D → Option (List (NestedKey × D))
  | [] => some []
  | x :: xs => match pairD x, pairsD xs with
    | some p, some ps => some (p :: ps)
    | _, _ => none
def dictD (x : D) : M D := fun st => match cellAt st x with
  | some (.lst xs) => match pairsD xs with
    | some ps => .ok (.tmp (.dct (mergeD [] ps))) st
    | none => .stuck
  | some (.dct kvs) => .ok (.tmp (.dct kvs)) st
  | _ => .stuck
theorem RepL.two {K : PySem.W.Frag} {ρ : List Addr} {H : Hp} {x y : D} {vs : List V} (h : RepL K ρ H [x, y] vs) : ∃ u v, vs = [u, v] ∧ Rep K ρ H x u ∧ Rep K ρ H y v := by
  cases h with
  | cons a h1 =>
    cases h1 with
    | cons b h2 =>
      cases h2
      exact ⟨_, _, rfl, a, b⟩
theorem pairL_some {xs : List D} {p : NestedKey × D} (h : pairL xs = some p) : ∃ k, xs = [k, p.2] ∧ keyOf k = some p.1 := by
  cases xs with
  | nil => exact absurd h (fun z => nomatch z)
  | cons k r =>
    cases r with
    | nil => exact absurd h (fun z => nomatch z)
    | cons v r =>
      cases r with
      | cons _ _ => exact absurd h (fun z => nomatch z)
      | nil =>
        replace h : (match keyOf k with
          | some k => some (k, v)
          | none => none) = some p := h
        cases q : keyOf k with
        | none => rw [q] at h; exact absurd h (fun z => nomatch z)
        | some k' =>
          rw [q] at h
          have e3 : (k', v) = p := Option.some.inj h
          subst e3
          exact ⟨k, rfl, q⟩
theorem pair_go {K : PySem.W.Frag} {ρ : List Addr} {H : Hp} {a : Addr} {xs : List D} {vs : List V} {p : NestedKey × D} (t : SqT K H a vs) (l : RepL K ρ H xs vs) (h : pairL xs = some p) : ∃ kk u, SqT K H a [kV kk, u] ∧ p = (kN kk, p.2) ∧ Rep K ρ H p.2 u := by
  obtain ⟨k, e, q⟩ := pairL_some h
  rw [e] at l
  obtain ⟨v1, v2, e2, r1, r2⟩ := l.two
  obtain ⟨kk, e3, e4⟩ := key_of (.kept r1) q
  rw [e2, e4] at t
  exact ⟨kk, v2, t, by rw [← e3], r2⟩
theorem pair_of {K : PySem.W.Frag} {ρ : List Addr} {H : Hp} {x : D} {v : V} {p : NestedKey × D} (r : Rep K ρ H x v) (h : pairD x = some p) : ∃ a kk u, v = .ref a ∧ SqT K H a [kV kk, u] ∧ p = (kN kk, p.2) ∧ Rep K ρ H p.2 u := by
  cases r with
  | tup t l => exact ⟨_, (pair_go t.sq l h).elim fun kk q => ⟨kk, q.elim fun u z => ⟨u, rfl, z⟩⟩⟩
  | row t l => exact ⟨_, (pair_go (t.elim (fun t => .inl (.inl t)) TupX.sq) l h).elim fun kk q => ⟨kk, q.elim fun u z => ⟨u, rfl, z⟩⟩⟩
  | _ => exact absurd h (fun z => nomatch z)
theorem pairs_of {K : PySem.W.Frag} {ρ : List Addr} {H : Hp} : ∀ {xs : List D} {vs : List V} {ps : List (NestedKey × D)}, RepL K ρ H xs vs → pairsD xs = some ps → ∃ (as : List Addr) (kvs : List (L2.Key × V)), vs = as.map V.ref ∧ Paired (fun p kv => SqT K H p [kV kv.1, kv.2]) as kvs ∧ RepKV K ρ H ps kvs
  | [], _, _, .nil, h => by cases h; exact ⟨[], [], rfl, .nil, .nil⟩
  | x :: xs, _, ps, .cons r l, h => by
    unfold pairsD at h
    split at h
    · rename_i p ps' h1 h2
      cases h
      obtain ⟨a, kk, u, rfl, e1, e2, e3⟩ := pair_of r h1
      obtain ⟨as, kvs, rfl, q1, q2⟩ := pairs_of l h2
      refine ⟨a :: as, (kk, u) :: kvs, rfl, .cons e1 q1, ?_⟩
      rw [e2]
      exact .cons e3 q2
    · cases h
theorem call_dictX (hc : X.calm = true) : CallR X (.type "dict") (cOf1 X.K E dictD) := by
  intro pins s σ H xs us Q I r h
  obtain ⟨x, rfl, ρ, st, d, rs, rd, w⟩ := h
  unfold dictD at w
  split at w
  · rename_i ys hy
    obtain ⟨a, vs, rfl, t, l⟩ := rs.read rd hy
    split at w
    · rename_i ps hps
      obtain ⟨as, kvs, rfl, h1, h2⟩ := pairs_of l hps
      exact call_dictP hc pins s σ H _ us Q I r ⟨a, as, kvs, rfl, t, h1, fun q hq => Pd.tmp (Q := fun _ v _ _ H' => Q v H') w .refl rs hq ⟨_, rfl, (h2.merge .nil).stay (Grow.new (ρ := ρ) hq).stay⟩⟩
    · exact w.elim
  · rename_i kvs hy
    obtain ⟨a, ps, rfl, t, l⟩ := rs.readD rd hy
    exact call_dictD pins s σ H _ us Q I r ⟨a, ps, rfl, t, fun q hq => Pd.tmp (Q := fun _ v _ _ H' => Q v H') w .refl rs hq ⟨_, rfl, l.stay (Grow.new (ρ := ρ) hq).stay⟩⟩
  · exact w.elim
end
/-! ### rules -/
def rDict : RE := fun T C x => match x with
  | .Dict [] [] _ => some newD
  | .Call (.Name x _) [a] [] _ => if x = "dict" ∧ C.blt "dict" = true ∧ starred a = false then (T.e C a).map (un1 dictD) else none
  | .DictComp kx vx [g] scope _ =>
    if settish g.iter = true ∨ g.is_async ≠ 0 ∨ blkC C.N C.sc scope (ownOf scope 0 C.N) = false then none
    else match T.i C g.target g.iter with
      | none => none
      | some it => match T.g (C.blk scope) ((ownOf scope 0 C.N).map (·.2)) g.target with
        | none => none
        | some t => match trTests (T.t (C.blk scope)) g.ifs with
          | none => none
          | some ts => match T.e (C.blk scope) kx with
            | none => none
            | some fk => match T.e (C.blk scope) vx with
              | none => none
              | some fe => some (dcE ((ownOf scope 0 C.N).map (·.2)) it t ts fk fe)
  | _ => none
theorem rDict_ok : REok rDict := by
  intro T hT C X E g x f h
  unfold rDict at h
  split at h
  · cases h; exact de_dnew
  · rename_i x p a pos
    split at h
    · rename_i hc
      obtain ⟨rfl, hb, hs⟩ := hc
      obtain ⟨gl, hm, hdb, hn⟩ := g.bl hb
      cases q : T.e C a with
      | none => rw [q] at h; cases h
      | some fa =>
        rw [q] at h
        cases h
        exact de_callT1 (call_dictX g.calm) gl hm (by decide +kernel) (hT.e g q) (star_cons hs) hn hdb
    · cases h
  · rename_i kx vx gen scope pos
    obtain ⟨tg, iter, ifs, a⟩ := gen
    split at h
    · cases h
    · rename_i hn
      simp only [not_or, Bool.not_eq_true, Decidable.not_not, Bool.not_eq_false] at hn
      obtain ⟨h1, h2, h3⟩ := hn
      cases (show a = 0 from h2)
      split at h
      · cases h
      · rename_i it hi
        split at h
        · cases h
        · rename_i t ht
          split at h
          · cases h
          · rename_i ts hts
            split at h
            · cases h
            · rename_i fk hk
              split at h
              · cases h
              · rename_i fe he
                cases h
                have ok : BlkOk X.N X.env.scope scope (ownOf scope 0 C.N) := by
                  rw [g.N, g.sc]
                  exact blkOk_by h3
                have gb := g.blk ok.kind
                exact de_dc g.calm (by rw [g.N]; exact g.nd) (hT.i g hi) ok (fun s H C' cl fp => hT.g (gb s H C' cl fp) ht) (fun s H C' cl fp => trTests_ok (fun e => hT.t (gb s H C' cl fp) e) hts) (fun s H C' cl fp => hT.e (gb s H C' cl fp) hk) (fun s H C' cl fp => hT.e (gb s H C' cl fp) he) (folded_plain h1)
  · cases h
end Ev
set_option Elab.async false
set_option linter.all false
set_option maxRecDepth 100000
set_option maxHeartbeats 4000000
/-! Ev, part 20: x[::-1] of lists and tuples. -/
namespace EvT
open PySem PySem.W PySem.Calls PyProof.Rows
section
variable {prog : Program} {w : World} {A : Around} {E : Value → Shared → Prop} {s : Shared}
theorem rev_adjust (n : Nat) : Builtin.Slice.sliceAdjust none none (-1) (n : Int) = ((n : Int) - 1, -1) := rfl
theorem rev_places (n : Nat) : Builtin.Slice.slicePlaces ((n : Int) - 1) (-1) (-1) = n := by
  unfold Builtin.Slice.slicePlaces
  rw [if_neg (by decide)]
  by_cases h : n = 0
  · subst h; decide
  · rw [if_pos (by omega)]
    have e : (-(-1 : Int)) = 1 := rfl
    rw [e, Int.ediv_one]
    omega
theorem rev_applied {sl : Addr} {vs : Value} {n : Nat} {Q : Int × Int × Nat → Shared → Prop} (hs : s.heap.IsSliceOf sl .none .none vs) (ps : IsPart vs (some (-1)))
    (h : Q ((n : Int) - 1, -1, n) s) : wpAny (model prog w) A (Builtin.Slice.sliceApplied (.ref sl) (pure (n : Int))) Q E s := by
  obtain ⟨os, hos, hcs, hds⟩ := id hs
  unfold Builtin.Slice.sliceApplied Builtin.Slice.sliceFields
  refine wpAny_bind (wpAny_bind (wpAny_field hos hds (x := .none) rfl (wpAny_bind (wpAny_field hos hds (x := .none) rfl (wpAny_bind (wpAny_field hos hds (x := vs) rfl (wpAny_pure ?_)))))))
  refine wpAny_bind (HT.slicePart_ ps ?_)
  show wpAny _ _ (if ((-1 : Int) == 0) = true then _ else _) _ _ s
  rw [if_neg (by decide)]
  refine wpAny_bind (HT.slicePart_ .none (wpAny_bind (HT.slicePart_ .none (wpAny_bind (wpAny_pure ?_)))))
  show wpAny _ _ (match Builtin.Slice.sliceAdjust none none (-1) (n : Int) with | (lo, hi) => pure (lo, (-1 : Int), Builtin.Slice.slicePlaces lo hi (-1))) _ _ s
  rw [rev_adjust]
  show wpAny _ _ (pure ((n : Int) - 1, (-1 : Int), Builtin.Slice.slicePlaces ((n : Int) - 1) (-1) (-1))) _ _ s
  rw [rev_places]
  exact wpAny_pure h
theorem rev_pick (xs : List Value) : ∀ k, k ≤ xs.length → ((List.range k).filterMap fun (m : Nat) => xs.toArray[(((xs.length : Nat) : Int) - 1 + (m : Int) * (-1)).toNat]?) = xs.reverse.take k
  | 0, _ => by simp
  | k + 1, h => by
    rw [List.range_succ, List.filterMap_append, rev_pick xs k (by omega)]
    have e : (((xs.length : Nat) : Int) - 1 + (k : Int) * (-1)).toNat = xs.length - 1 - k := by omega
    have hk : k < xs.reverse.length := by rw [List.length_reverse]; omega
    rw [List.take_add_one]
    congr 1
    simp only [List.filterMap_cons, List.filterMap_nil, e]
    have : xs.toArray[xs.length - 1 - k]? = xs.reverse[k]? := by
      rw [List.getElem?_reverse (by omega)]
      simp
    rw [this, List.getElem?_eq_getElem hk]
    rfl
theorem getItem_tuple_rev {t sl : Addr} {its : List Value} {vs : Value} {Q : Value → Shared → Prop} (ht : IsTup s.heap t its.toArray) (hs : s.heap.IsSliceOf sl .none .none vs) (ps : IsPart vs (some (-1)))
    (h : Q (.ref s.heap.objs.size) { s with heap := s.heap.push { cls := .type "tuple", data := .seq its.reverse.toArray } }) (hsz : its.length ≤ sizeLine) : wpAny (model prog w) A (getItem (.ref t) (.ref sl)) Q E s := by
  have hok : sizeOk (.seq its.reverse.toArray) := by
    show its.reverse.toArray.size ≤ sizeLine
    rw [List.size_toArray, List.length_reverse]
    exact hsz
  obtain ⟨os, hos, hcs, hds⟩ := id hs
  have hTs : s.TypeIs (.ref sl) "slice" := ⟨os, hos, hcs⟩
  unfold getItem
  try with_reducible refine wpAny_holding ?_
  first | refine wpAny_bind (wpAny_pure ?_) | skip
  refine wpAny_bind (wpAny_sequenceKey ht.typeIs (by decide) ?_)
  refine wpAny_bind (wpAny_callSpecial?_slot (name := Str.ofString "__getitem__") ht.typeIs PyProof.Rows.slot_tuple_getitem
    (wpAny_call_entry PyProof.Rows.slot_tuple_getitem ht.typeIs entry_tuple_getitem ?_ (args_tuple_getitem _ _)))
  show wpAny _ _ (Builtin.Tuple.tupleItemsOf (.ref t) >>= _) _ _ s
  refine wpAny_bind (tupleItemsOf_ ht ?_)
  refine wpAny_bind (wpAny_typeOf hTs ?_)
  rw [if_pos (by decide)]
  refine wpAny_bind (rev_applied hs ps ?_)
  have hno : ¬ ((((its.toArray.size : Nat) : Int) - 1 == 0 && (-1 : Int) == 1 && its.toArray.size == its.toArray.size) = true) := by
    intro q
    rw [Bool.and_eq_true, Bool.and_eq_true] at q
    exact absurd q.1.2 (by decide)
  show wpAny _ _ (if (((its.toArray.size : Nat) : Int) - 1 == 0 && (-1 : Int) == 1 && its.toArray.size == its.toArray.size) = true then _ else _) _ _ s
  rw [if_neg hno]
  have hp : ((List.range its.toArray.size).filterMap fun (m : Nat) => its.toArray[(((its.toArray.size : Nat) : Int) - 1 + (m : Int) * (-1)).toNat]?).toArray = its.reverse.toArray := by
    rw [List.size_toArray, rev_pick its its.length (Nat.le_refl _), ← List.length_reverse, List.take_length]
  rw [hp]
  first
    | exact wpAny_bind (m := Builtin.Tuple.tupleExact _) (wpAny_newObj_type (wpAny_pure ⟨_, rfl, wpAny_pure h⟩) hok)
    | exact wpAny_bind (m := Builtin.Tuple.tupleExact _) (wpAny_newObj_type (wpAny_bind (wpAny_pure (wpAny_pure ⟨_, rfl, wpAny_pure h⟩))) hok)
    | exact wpAny_bind (wpAny_bind (m := Builtin.Tuple.tupleExact _) (wpAny_newObj_type (wpAny_pure (wpAny_pure ⟨_, rfl, wpAny_pure h⟩)) hok))
    | exact wpAny_bind (wpAny_bind (m := Builtin.Tuple.tupleExact _) (wpAny_newObj_type (wpAny_pure ⟨_, rfl, wpAny_pure h⟩) hok))
end
end EvT
namespace Ev
open PySem PySem.Spec PyProof.Rows L2
def revD (x : D) : M D := fun st => match x with
  | .tup xs => .ok (.tup xs.reverse) st
  | _ => match cellAt st x with
    | some (.lst xs) => .ok (.tmp (.lst xs.reverse)) st
    | _ => .stuck
theorem RepL.reverse {K : PySem.W.Frag} {ρ : List Addr} {H : Hp} : ∀ {ds : List D} {vs : List V}, RepL K ρ H ds vs → RepL K ρ H ds.reverse vs.reverse
  | [], _, .nil => .nil
  | d :: ds, _, .cons h r => by
    rw [List.reverse_cons, List.reverse_cons]
    exact (RepL.reverse r).append (.cons h .nil)
section
variable {X : Cx} {E : EK} {e : Expr} {fe : Ex} {k : Nat} {p1 p2 p3 pos : Pos}
theorem de_rev (he : DE X E e fe) : DE X E (.Subscript e (.Slice none none (some (.UnaryOp .USub (.Constant (.int 1) k p1) p2)) p3) pos) (un1 revD fe) := by
  -- a list by the layer's rule, a tuple by its own object
  refine ⟨fun pins s σ H Q I ⟨ρ, fr, st, rf, rs, w⟩ => ?_⟩
  refine Subscript_ (thn (he.run pins s σ H (fun v H1 => ∃ d st1 ρ1, Grow ρ ρ1 H H1 ∧ RepS X.K ρ1 H1 st1 ∧ RepH X.K ρ1 H1 d v ∧ Wp X.K E (revD d st1) ρ1 H1 (Pd X.K H1 fun _ v _ _ H' => Q v H')) I (tOf.bnd rf rs w fun d v st1 ρ1 H1 g1 s1 rf1 rh f1 w1 => ⟨d, st1, ρ1, g1, s1, rh, w1.re g1⟩)) fun v s1 ⟨x, H1, I1, r1, d, st1, ρ1, g1, s1', rh, w1⟩ => ?_)
  have hst : PO X (some (.UnaryOp .USub (.Constant (.int 1) k p1) p2)) (tPart (tUn (rU fun i => .int (-i)) (tC (.int 1)))) := po_some (pe_un un_neg pe_int)
  refine wpAny_Slice (thn (po_none.run pins s1 σ H1 (fun o H2 => o = none ∧ H2 = H1) I1 ⟨rfl, rfl⟩) fun vl s2 ⟨l, H2, I2, pl, el, e2⟩ => ?_)
  subst el e2
  refine thn (po_none.run pins s2 σ H2 (fun o H3 => o = none ∧ H3 = H2) I2 ⟨rfl, rfl⟩) fun vu s3 ⟨u, H3, I3, pu, eu, e3⟩ => ?_
  subst eu e3
  refine thn (hst.run pins s3 σ H3 (fun o H4 => o = some (-1) ∧ H4 = H3) I3 ⟨1, rfl, -1, rfl, rfl, rfl⟩) fun vs s4 ⟨o, H4, I4, ps, eo, e4⟩ => ?_
  subst eo e4
  have I5 : Inv X pins σ H4 { s4 with heap := s4.heap.push { cls := .type "slice", data := .fields #[vl, vu, vs] } } := I4.kept (t' := s4.toks) fun b ob q => Heap.get?_push_of_some _ q
  cases pl
  cases pu
  unfold revD at w1
  split at w1
  · obtain ⟨a, ws, rfl, t, l⟩ := rh.tup
    cases r1
    obtain ⟨its, r, ht, hz⟩ := I5.tuple t.sq
    have hlen := r.length
    show wpAny (model X.prog X.w) X.A (subscriptTail e (.Slice none none (some (.UnaryOp .USub (.Constant (.int 1) k p1) p2)) p3) (.ref a) (.ref s4.heap.objs.size)) (EP X pins σ Q) X.xe { s4 with heap := s4.heap.push { cls := .type "slice", data := .fields #[.none, .none, vs] } }
    refine tail_any (ops := [.ref a, .ref s4.heap.objs.size]) ht.typeIs (PyProof.Rows.slot_tuple_getitem.lookup) ?_ (by with_unfolding_all rfl)
    refine EvT.getItem_tuple_rev ht (Heap.IsSliceOf.new _ .none .none vs) ps ?_ (by omega)
    have hf := I5.hok.fresh (Nat.le_refl _)
    refine ⟨.ref _, _, I5.laid (t' := s4.toks) (o := .frz { cls := .type "tuple", data := .seq its.reverse.toArray } (.tup ws.reverse)) (fun b ob q => Heap.get?_push_of_some _ q) (Nat.le_refl _) ?_, rfl, Pd.tup (Q := fun _ v _ _ H' => Q v H') w1 .refl s1' hf rfl rfl l.reverse⟩
    exact ⟨Heap.get?_push_size _ rfl, by rw [List.length_reverse]; exact hz, _, r.reverse, IsTup.new _ _⟩
  · split at w1
    · rename_i ys hy
      obtain ⟨a, ws, rfl, t, l⟩ := s1'.read rh hy
      cases r1
      obtain ⟨its, r, ht, hz⟩ := I5.list t
      have hlen := r.length
      show wpAny (model X.prog X.w) X.A (subscriptTail e (.Slice none none (some (.UnaryOp .USub (.Constant (.int 1) k p1) p2)) p3) (.ref a) (.ref s4.heap.objs.size)) (EP X pins σ Q) X.xe { s4 with heap := s4.heap.push { cls := .type "slice", data := .fields #[.none, .none, vs] } }
      refine tail_any (ops := [.ref a, .ref s4.heap.objs.size]) ht.isList.typeIs (PySem.slot_list_getitem.lookup) ?_ (by with_unfolding_all rfl)
      refine wpAny_getItem_list_slice ht.isList (Heap.IsSliceOf.new _ .none .none vs) .none .none ps (by decide) ?_ (by rw [List.size_toArray]; omega)
      rw [PySem.W.krv_pick]
      have hf := I5.hok.fresh (Nat.le_refl _)
      refine ⟨.ref _, _, I5.laid (t' := s4.toks) (o := .lst ws.reverse) (fun b ob q => Heap.get?_push_of_some _ q) (Nat.le_refl _) ?_, rfl, Pd.tmp (Q := fun _ v _ _ H' => Q v H') w1 .refl s1' hf ⟨_, rfl, l.reverse.stay (Grow.new (ρ := ρ1) hf).stay⟩⟩
      exact ⟨by rw [List.length_reverse]; exact hz, _, 0, r.reverse, Heap.get?_push_size _ rfl⟩
    · exact w1.elim
end
def rRev : RE := fun T C x => match x with
  | .Subscript a (.Slice none none (some (.UnaryOp .USub (.Constant (.int i) _ _) _)) _) _ => if i = 1 then (T.e C a).map (un1 revD) else none
  | _ => none
theorem rRev_ok : REok rRev := by
  intro T hT C X E g x f h
  unfold rRev at h
  split at h
  · rename_i a i k p1 p2 p3 pos
    split at h
    · rename_i hi
      subst hi
      cases q : T.e C a with
      | none => rw [q] at h; cases h
      | some fa =>
        rw [q] at h
        cases h
        exact de_rev (hT.e g q)
    · cases h
  · cases h
end Ev
set_option Elab.async false
set_option linter.all false
set_option maxRecDepth 100000
/-! Ev: the rules so far. -/
namespace Ev
noncomputable def rules : Rl := ⟨[rAtom, rDisp, rOp, rBool, rSub, rLr, rIsi, rBlt, rDef, rMeth, rLc, rDict, rRev], [rTest], [rIter], [rTgt]⟩
theorem rules_ok : RlOk rules := by
  refine ⟨fun r h => ?_, fun r h => ?_, fun r h => ?_, fun r h => ?_⟩
  · simp only [rules, List.mem_cons, List.not_mem_nil, or_false] at h
    rcases h with rfl | rfl | rfl | rfl | rfl | rfl | rfl | rfl | rfl | rfl | rfl | rfl | rfl
    · exact rAtom_ok
    · exact rDisp_ok
    · exact rOp_ok
    · exact rBool_ok
    · exact rSub_ok
    · exact rLr_ok
    · exact rIsi_ok
    · exact rBlt_ok
    · exact rDef_ok
    · exact rMeth_ok
    · exact rLc_ok
    · exact rDict_ok
    · exact rRev_ok
  · simp only [rules, List.mem_cons, List.not_mem_nil, or_false] at h
    rcases h with rfl
    exact rTest_ok
  · simp only [rules, List.mem_cons, List.not_mem_nil, or_false] at h
    rcases h with rfl
    exact rIter_ok
  · simp only [rules, List.mem_cons, List.not_mem_nil, or_false] at h
    rcases h with rfl
    exact rTgt_ok
noncomputable def stmts : List RS := [sPlain, sAsg]
theorem stmts_ok : ∀ r ∈ stmts, RSok r := by
  intro r h
  simp only [stmts, List.mem_cons, List.not_mem_nil, or_false] at h
  rcases h with rfl | rfl
  · exact sPlain_ok
  · exact sAsg_ok
end Ev
set_option Elab.async false
set_option linter.all false
set_option maxRecDepth 100000
set_option maxHeartbeats 4000000
/-! Ev, part 22: what a head wants. -/
namespace Ev
open PySem PySem.Spec PyProof.Rows L2
theorem lookup_of {α : Type} {l : List (Str × α)} {P : Str → α → Prop} (h : ∀ p ∈ l, P p.1 p.2) : ∀ x i, l.lookup x = some i → P x i := fun x i e => h (x, i) (PySem.mem_of_lookup e)
theorem world_of {P : Program} {w : World} {K : PySem.W.Frag} {mg : Str → Option Value} {base : Heap} {C : Tc} (hG : ∀ p ∈ C.G, Knows P w K mg base p.1 p.2 ∧ p.2.k ≤ C.j) (hV : ∀ p ∈ C.V, ∃ u v, mg p.1 = some u ∧ RelV v u ∧ GloV K p.2 v) (hB : ∀ x ∈ C.B, mg x = none) : World0 P w K mg base C :=
  ⟨lookup_of (P := fun x i => Knows P w K mg base x i ∧ i.k ≤ C.j) hG, lookup_of (P := fun x d => ∃ u v, mg x = some u ∧ RelV v u ∧ GloV K d v) hV, fun x h => hB x (by simpa using h)⟩
theorem all_nil {α : Type} {P : α → Prop} : ∀ p ∈ ([] : List α), P p := fun _ h => by cases h
theorem all_cons {α : Type} {P : α → Prop} {a : α} {l : List α} (h : P a) (t : ∀ p ∈ l, P p) : ∀ p ∈ a :: l, P p := fun p m => by
  rcases List.mem_cons.mp m with e | m
  · rw [e]; exact h
  · exact t p m
theorem con_int {K : PySem.W.Frag} {mg : Str → Option Value} {x : Str} {i : Int} (h : ∃ t, mg x = some (.int i t)) : ∃ u v, mg x = some u ∧ RelV v u ∧ GloV K (.int i) v := by
  obtain ⟨t, e⟩ := h
  exact ⟨_, .int i, e, ⟨t, rfl⟩, fun ρ H => .int i⟩
theorem con_str {K : PySem.W.Frag} {mg : Str → Option Value} {x z : Str} (h : ∃ t, mg x = some (.str z t)) : ∃ u v, mg x = some u ∧ RelV v u ∧ GloV K (.str z) v := by
  obtain ⟨t, e⟩ := h
  exact ⟨_, .str z, e, ⟨t, rfl⟩, fun ρ H => .str z⟩
/-- the script, as the law gets it -/
def scriptD (ns : List Int) : D := .frl (ns.map .int)
theorem rep_script {K : PySem.W.Frag} {H : Hp} {a : Addr} {ns : List Int} (hO : Only H) (hS : SqL K H a (ns.map V.int)) : Rep K [] H (scriptD ns) (.ref a) := by
  have l : RepL K [] H (ns.map D.int) (ns.map V.int) := by
    clear hS
    induction ns with
    | nil => exact .nil
    | cons n ns ih => exact .cons (.int n) ih
  refine .frl ?_ l
  rcases hS with (h | ⟨o, h⟩) | h
  · rcases hO a with z | ⟨o, xs, z⟩
    · rw [h] at z; cases z
    · rw [h] at z; cases z
  · exact .inl ⟨o, h, by simp⟩
  · exact .inr h
/-- the law's promise, from what its denotation answers -/
theorem law_sp {K : PySem.W.Frag} {F : Fn} (plain : ∀ ns : List Int, ns.length ≤ 63 → ∃ st', F [scriptD ns] [] = .ok (.bl true) st') {H : Hp} {a : Addr} {ns : List Int} (hn : ns.length ≤ 63) (hO : Only H) (hS : SqL K H a (ns.map V.int)) :
    spOf K 1 F [.ref a] H (fun v _ => v = .bl true) fun _ _ _ => False := by
  obtain ⟨st', e⟩ := plain ns hn
  refine ⟨rfl, [], [], [scriptD ns], EK0, fun _ _ _ z => z.elim, ⟨rfl, List.nodup_nil, fun n c a e => by simp at e⟩, .cons (rep_script hO hS) .nil, ?_⟩
  rw [e]
  intro ρ' H' g s' v rv _
  exact rv.bl
theorem no_exc {P : Program} : ∀ (w : World) (H : Hp) (s : Shared) (e : Value) (s' : Shared), CX P w [] H s (fun _ _ _ => False) e s' → False := fun w H s e s' ⟨_, _, _, _, _, _, _, _, _, _, _, _, z⟩ => z
end Ev
set_option Elab.async false
set_option linter.all false
set_option maxRecDepth 100000
set_option maxHeartbeats 4000000
/-! the mirrors of the defs -/
namespace Law
open PySem PySem.Spec PyProof.Rows L2 Ev
def top (i : Nat) : Stmt := PySem.Challenge.pw_staypairs_k01_whole_wishes_judged.main.body.getD i (.Pass ⟨0, 0, 0, 0⟩)
def cV : List (Str × D) := [("PAIR_SIZE", (.int 2)), ("MOST_PERSONS", (.int 40)), ("LEFT", (.str "left")), ("RIGHT", (.str "right")), ("FORM", (.str "form"))]
def cB : List Str := ["abs", "all", "bool", "dict", "enumerate", "int", "isinstance", "len", "list", "max", "min", "range", "repr", "tuple"]
/-! is_whole -/
noncomputable def B_is_whole : S := (retS (andE (un1 (isInst "int") (varE 0)) (notE (un1 (isInst "bool") (varE 0)))))
noncomputable def F_is_whole : Fn := fnD 1 0 B_is_whole
noncomputable def I_is_whole : FI := ⟨1, F_is_whole, 1⟩
def N_is_whole : List Str := ["value"]
noncomputable def C_is_whole : Tc := ⟨N_is_whole, defScope (top 2), fun _ => true, [], cV, cB, 0, 1000000⟩
theorem tr_is_whole : trSs (trs rules 40) stmts C_is_whole 60 (defBody (top 2)) = some B_is_whole := by kernel_rfl
/-! is_pair -/
noncomputable def B_is_pair : S := (retS (andE (un1 (isInst "tuple") (varE 0)) (bin2 (cmpD .Eq) (un1 lenD (varE 0)) (conE (.int 2)))))
noncomputable def F_is_pair : Fn := fnD 1 0 B_is_pair
noncomputable def I_is_pair : FI := ⟨1, F_is_pair, 1⟩
def N_is_pair : List Str := ["value"]
noncomputable def C_is_pair : Tc := ⟨N_is_pair, defScope (top 4), fun _ => true, [], cV, cB, 0, 1000000⟩
theorem tr_is_pair : trSs (trs rules 40) stmts C_is_pair 60 (defBody (top 4)) = some B_is_pair := by kernel_rfl
/-! _law_dice -/
noncomputable def B__law_dice : S := (seqS (asgS (setT 2) (ifE (testE (bin2 (cmpD .Lt) (varE 1) (un1 lenD (varE 0)))) (un1 intD (bin2 ixD (varE 0) (varE 1))) (bin2 addD (bin2 mulD (conE (.int 101)) (varE 1)) (conE (.int 43)))))
    (seqS (asgS (setT 3) (bin2 modD (bin2 maxD (conE (.int 0)) (bin2 subD (un1 absD (varE 2)) (bin2 powD (conE (.int 10)) (conE (.int 16))))) (bin2 mulD (bin2 powD (conE (.int 10)) (conE (.int 60))) (bin2 powD (conE (.int 10)) (conE (.int 60))))))
    (retS (lstE [(varE 3), (bin2 addD (bin2 addD (bin2 addD (bin2 mulD (bin2 modD (un1 absD (varE 2)) (conE (.int 1152921504606846883))) (conE (.int 37))) (bin2 mulD (conE (.int 883)) (varE 1))) (bin2 mulD (conE (.int 29)) (un1 intD (bin2 (cmpD .Lt) (varE 2) (conE (.int 0)))))) (conE (.int 17))), (conE (.int 0))]))))
noncomputable def F__law_dice : Fn := fnD 2 2 B__law_dice
noncomputable def I__law_dice : FI := ⟨2, F__law_dice, 1⟩
def N__law_dice : List Str := ["script", "spot", "cell", "left"]
noncomputable def C__law_dice : Tc := ⟨N__law_dice, defScope (top 18), fun _ => true, [], cV, cB, 0, 1000000⟩
theorem tr__law_dice : trSs (trs rules 40) stmts C__law_dice 60 (defBody (top 18)) = some B__law_dice := by kernel_rfl
/-! _law_roll -/
noncomputable def B__law_roll : S := (seqS (ifS (testE (bin2 (cmpD .Gt) (bin2 ixD (varE 0) (conE (.int 0))) (conE (.int 0)))) (seqS (asgS (setT 4) (bin2 modD (un1 intD (bin2 ixD (varE 0) (conE (.int 0)))) (varE 1)))
    (seqS (asgS (subT (varE 0) (conE (.int 0))) (bin2 fdivD (bin2 ixD (varE 0) (conE (.int 0))) (varE 1)))
    (retS (varE 4)))) nopS)
    (seqS (asgS (subT (varE 0) (conE (.int 2))) (bin2 addD (bin2 ixD (varE 0) (conE (.int 2))) (conE (.int 1))))
    (seqS (asgS (setT 2) (bin2 modD (un1 intD (bin2 addD (bin2 ixD (varE 0) (conE (.int 1))) (bin2 mulD (conE (.int 49979687)) (bin2 ixD (varE 0) (conE (.int 2)))))) (conE (.int 2305843009213693907))))
    (seqS (asgS (setT 3) (bin2 addD (bin2 mulD (bin2 modD (un1 intD (bin2 addD (bin2 mulD (varE 2) (varE 2)) (bin2 mulD (conE (.int 107)) (bin2 ixD (varE 0) (conE (.int 2)))))) (conE (.int 2305843009213693921))) (conE (.int 7368787))) (varE 2)))
    (retS (bin2 modD (un1 intD (bin2 fdivD (varE 3) (conE (.int 65536)))) (varE 1)))))))
noncomputable def F__law_roll : Fn := fnD 2 3 B__law_roll
noncomputable def I__law_roll : FI := ⟨2, F__law_roll, 1⟩
def N__law_roll : List Str := ["dice", "total", "one", "two", "found"]
noncomputable def C__law_roll : Tc := ⟨N__law_roll, defScope (top 19), fun _ => true, [], cV, cB, 0, 1000000⟩
theorem tr__law_roll : trSs (trs rules 40) stmts C__law_roll 60 (defBody (top 19)) = some B__law_roll := by kernel_rfl
/-! _law_grid -/
noncomputable def B__law_grid : S := (seqS (asgS (setT 2) (lstE []))
    (seqS (forS (range1I (varE 0)) (setT 3) (exprS (meth1 ["list"] extendD (varE 2) (lcE [4] (range1I (varE 1)) (setT 4) [] (tupE [(varE 3), (varE 4)])))))
    (retS (varE 2))))
noncomputable def F__law_grid : Fn := fnD 2 3 B__law_grid
noncomputable def I__law_grid : FI := ⟨2, F__law_grid, 1⟩
def N__law_grid : List Str := ["n", "m", "found", "l", "r"]
noncomputable def C__law_grid : Tc := ⟨N__law_grid, defScope (top 23), fun _ => true, [], cV, cB, 0, 1000000⟩
theorem tr__law_grid : trSs (trs rules 40) stmts C__law_grid 60 (defBody (top 23)) = some B__law_grid := by kernel_rfl
/-! _law_beside -/
noncomputable def B__law_beside : S := (seqS (asgS (tupT [(setT 2), (setT 3)]) (tupE [(un1 lenD (bin2 ixD (varE 0) (conE (.int 0)))), (un1 lenD (bin2 ixD (varE 0) (conE (.int 1))))]))
    (seqS (asgS (setT 4) (un1 tupleD (lcE [5] (seqI (bin2 ixD (varE 1) (conE (.int 0)))) (setT 5) [] (un1 tupleD (lcE [6] (seqI (varE 5)) (setT 6) [] (bin2 addD (varE 6) (varE 3)))))))
    (retS (tupE [(bin2 addD (bin2 ixD (varE 0) (conE (.int 0))) (varE 4)), (bin2 addD (bin2 ixD (varE 0) (conE (.int 1))) (un1 tupleD (lcE [5] (seqI (bin2 ixD (varE 1) (conE (.int 1)))) (setT 5) [] (un1 tupleD (lcE [7] (seqI (varE 5)) (setT 7) [] (bin2 addD (varE 7) (varE 2)))))))]))))
noncomputable def F__law_beside : Fn := fnD 2 6 B__law_beside
noncomputable def I__law_beside : FI := ⟨2, F__law_beside, 1⟩
def N__law_beside : List Str := ["one", "other", "n", "m", "lefts", "row", "r", "l"]
noncomputable def C__law_beside : Tc := ⟨N__law_beside, defScope (top 27), fun _ => true, [], cV, cB, 0, 1000000⟩
theorem tr__law_beside : trSs (trs rules 40) stmts C__law_beside 60 (defBody (top 27)) = some B__law_beside := by kernel_rfl
/-! _law_is_side -/
noncomputable def B__law_is_side : S := (seqS (ifS (orT (notT (testE (un1 (isInst "tuple") (varE 0)))) (notT (testE (chainE (cmpD .LtE) (cmpD .LtE) (conE (.int 1)) (un1 lenD (varE 0)) (conE (.int 40)))))) (retS (conE (.bl false))) nopS)
    (seqS (forS (seqI (varE 0)) (setT 2) (seqS (ifS (notT (testE (un1 (isInst "tuple") (varE 2)))) (retS (conE (.bl false))) nopS)
    (seqS (ifS (testE (bin2 (cmpD .NotEq) (lcE [3] (seqI (varE 2)) (setT 3) [(orT (notT (testE (un1 (isInst "int") (varE 3)))) (orT (testE (un1 (isInst "bool") (varE 3))) (notT (testE (chainE (cmpD .LtE) (cmpD .Lt) (conE (.int 0)) (varE 3) (varE 1))))))] (varE 3)) (lstE []))) (retS (conE (.bl false))) nopS)
    (ifS (testE (bin2 (cmpD .Lt) (un1 lenD (un1 dictD (lcE [3] (seqI (varE 2)) (setT 3) [] (tupE [(varE 3), (conE (.bl true))])))) (un1 lenD (varE 2)))) (retS (conE (.bl false))) nopS))))
    (retS (conE (.bl true)))))
noncomputable def F__law_is_side : Fn := fnD 2 2 B__law_is_side
noncomputable def I__law_is_side : FI := ⟨2, F__law_is_side, 1⟩
def N__law_is_side : List Str := ["value", "many", "row", "one"]
noncomputable def C__law_is_side : Tc := ⟨N__law_is_side, defScope (top 31), fun _ => true, [], cV, cB, 0, 1000000⟩
theorem tr__law_is_side : trSs (trs rules 40) stmts C__law_is_side 60 (defBody (top 31)) = some B__law_is_side := by kernel_rfl
/-! is_within -/
noncomputable def B_is_within : S := (retS (andE (callE 1 F_is_whole [(varE 0)]) (chainE (cmpD .LtE) (cmpD .LtE) (varE 1) (varE 0) (varE 2))))
noncomputable def F_is_within : Fn := fnD 3 0 B_is_within
noncomputable def I_is_within : FI := ⟨3, F_is_within, 2⟩
def N_is_within : List Str := ["value", "least", "most"]
noncomputable def C_is_within : Tc := ⟨N_is_within, defScope (top 3), fun _ => true, [("is_whole", I_is_whole)], cV, cB, 1, 1000000⟩
theorem tr_is_within : trSs (trs rules 40) stmts C_is_within 60 (defBody (top 3)) = some B_is_within := by kernel_rfl
/-! _law_pick -/
noncomputable def B__law_pick : S := (retS (bin2 ixD (varE 1) (callE 2 F__law_roll [(varE 0), (un1 lenD (varE 1))])))
noncomputable def F__law_pick : Fn := fnD 2 0 B__law_pick
noncomputable def I__law_pick : FI := ⟨2, F__law_pick, 2⟩
def N__law_pick : List Str := ["dice", "items"]
noncomputable def C__law_pick : Tc := ⟨N__law_pick, defScope (top 20), fun _ => true, [("_law_roll", I__law_roll)], cV, cB, 1, 1000000⟩
theorem tr__law_pick : trSs (trs rules 40) stmts C__law_pick 60 (defBody (top 20)) = some B__law_pick := by kernel_rfl
/-! _law_mixed -/
noncomputable def B__law_mixed : S := (seqS (asgS (tupT [(setT 2), (setT 3)]) (tupE [(un1 listD (varE 1)), (lstE [])]))
    (seqS (forS (range1I (un1 lenD (varE 1))) (setT 4) (exprS (meth1s ["list"] appendD (varE 3) (meth1 ["list"] popD (varE 2) (callE 2 F__law_roll [(varE 0), (un1 lenD (varE 2))])))))
    (retS (varE 3))))
noncomputable def F__law_mixed : Fn := fnD 2 3 B__law_mixed
noncomputable def I__law_mixed : FI := ⟨2, F__law_mixed, 2⟩
def N__law_mixed : List Str := ["dice", "items", "left", "found", "turn"]
noncomputable def C__law_mixed : Tc := ⟨N__law_mixed, defScope (top 21), fun _ => true, [("_law_roll", I__law_roll)], cV, cB, 1, 1000000⟩
theorem tr__law_mixed : trSs (trs rules 40) stmts C__law_mixed 60 (defBody (top 21)) = some B__law_mixed := by kernel_rfl
/-! _law_fault -/
noncomputable def B__law_fault : S := (seqS (ifS (orT (notT (testE (un1 (isInst "tuple") (varE 0)))) (testE (bin2 (cmpD .NotEq) (un1 lenD (varE 0)) (conE (.int 2))))) (retS (tupE [(conE (.str "form"))])) nopS)
    (seqS (ifS (orT (notT (testE (un1 (isInst "tuple") (bin2 ixD (varE 0) (conE (.int 0)))))) (notT (testE (un1 (isInst "tuple") (bin2 ixD (varE 0) (conE (.int 1))))))) (retS (tupE [(conE (.str "form"))])) nopS)
    (seqS (ifS (orT (notT (testE (callE 2 F__law_is_side [(bin2 ixD (varE 0) (conE (.int 0))), (un1 lenD (bin2 ixD (varE 0) (conE (.int 1))))]))) (notT (testE (callE 2 F__law_is_side [(bin2 ixD (varE 0) (conE (.int 1))), (un1 lenD (bin2 ixD (varE 0) (conE (.int 0))))])))) (retS (tupE [(conE (.str "form"))])) nopS)
    (seqS (forS (enumI (bin2 ixD (varE 0) (conE (.int 0)))) (tupT [(setT 1), (setT 2)]) (forS (seqI (varE 2)) (setT 3) (ifS (testE (bin2 (cmpD .NotIn) (varE 1) (bin2 ixD (bin2 ixD (varE 0) (conE (.int 1))) (varE 3)))) (retS (tupE [(conE (.str "left")), (varE 1), (varE 3)])) nopS)))
    (seqS (forS (enumI (bin2 ixD (varE 0) (conE (.int 1)))) (tupT [(setT 3), (setT 2)]) (forS (seqI (varE 2)) (setT 1) (ifS (testE (bin2 (cmpD .NotIn) (varE 3) (bin2 ixD (bin2 ixD (varE 0) (conE (.int 0))) (varE 1)))) (retS (tupE [(conE (.str "right")), (varE 3), (varE 1)])) nopS)))
    (retS (conE .non)))))))
noncomputable def F__law_fault : Fn := fnD 1 3 B__law_fault
noncomputable def I__law_fault : FI := ⟨1, F__law_fault, 2⟩
def N__law_fault : List Str := ["value", "l", "row", "r"]
noncomputable def C__law_fault : Tc := ⟨N__law_fault, defScope (top 32), fun _ => true, [("_law_is_side", I__law_is_side)], cV, cB, 1, 1000000⟩
theorem tr__law_fault : trSs (trs rules 40) stmts C__law_fault 60 (defBody (top 32)) = some B__law_fault := by kernel_rfl
/-! is_list_of -/
noncomputable def B_is_list_of : S := (seqS (ifS (orT (notT (testE (un1 (isInst "tuple") (varE 0)))) (notT (testE (un1 allD (lcE [2] (seqI (varE 0)) (setT 2) [] (callE 3 F_is_within [(varE 2), (conE (.int 0)), (bin2 subD (varE 1) (conE (.int 1)))])))))) (retS (conE (.bl false))) nopS)
    (retS (bin2 (cmpD .Eq) (un1 lenD (dcE [2] (seqI (varE 0)) (setT 2) [] (varE 2) (conE (.bl true)))) (un1 lenD (varE 0)))))
noncomputable def F_is_list_of : Fn := fnD 2 1 B_is_list_of
noncomputable def I_is_list_of : FI := ⟨2, F_is_list_of, 3⟩
def N_is_list_of : List Str := ["value", "most", "one"]
noncomputable def C_is_list_of : Tc := ⟨N_is_list_of, defScope (top 11), fun _ => true, [("is_within", I_is_within)], cV, cB, 2, 1000000⟩
theorem tr_is_list_of : trSs (trs rules 40) stmts C_is_list_of 60 (defBody (top 11)) = some B_is_list_of := by kernel_rfl
/-! _law_wishes_of -/
noncomputable def B__law_wishes_of : S := (seqS (asgS (setT 4) (lcE [6] (range1I (varE 2)) (setT 6) [] (un1 tupleD (callE 2 F__law_mixed [(varE 0), (lcE [7, 8] (seqI (varE 1)) (tupT [(setT 7), (setT 8)]) [(testE (bin2 (cmpD .Eq) (varE 7) (varE 6)))] (varE 8))]))))
    (seqS (asgS (setT 5) (lcE [6] (range1I (varE 3)) (setT 6) [] (un1 tupleD (callE 2 F__law_mixed [(varE 0), (lcE [7, 8] (seqI (varE 1)) (tupT [(setT 7), (setT 8)]) [(testE (bin2 (cmpD .Eq) (varE 8) (varE 6)))] (varE 7))]))))
    (retS (tupE [(un1 tupleD (varE 4)), (un1 tupleD (varE 5))]))))
noncomputable def F__law_wishes_of : Fn := fnD 4 5 B__law_wishes_of
noncomputable def I__law_wishes_of : FI := ⟨4, F__law_wishes_of, 3⟩
def N__law_wishes_of : List Str := ["dice", "pairs", "n", "m", "lefts", "rights", "one", "l", "r"]
noncomputable def C__law_wishes_of : Tc := ⟨N__law_wishes_of, defScope (top 22), fun _ => true, [("_law_mixed", I__law_mixed)], cV, cB, 2, 1000000⟩
theorem tr__law_wishes_of : trSs (trs rules 40) stmts C__law_wishes_of 60 (defBody (top 22)) = some B__law_wishes_of := by kernel_rfl
/-! _law_ring_wishes -/
noncomputable def B__law_ring_wishes : S := (seqS (asgS (setT 2) (lcE [7] (range1I (varE 1)) (setT 7) [] (lcE [6] (range1I (varE 1)) (setT 6) [] (bin2 modD (bin2 addD (varE 7) (varE 6)) (varE 1)))))
    (seqS (asgS (setT 3) (lcE [8] (range1I (varE 1)) (setT 8) [] (lcE [6] (range1I (varE 1)) (setT 6) [] (bin2 modD (bin2 addD (bin2 addD (varE 8) (conE (.int 1))) (varE 6)) (varE 1)))))
    (seqS (forS (range1I (callE 2 F__law_roll [(varE 0), (conE (.int 3))])) (setT 4) (seqS (asgS (setT 5) (callE 2 F__law_pick [(varE 0), (bin2 addD (varE 2) (varE 3))]))
    (seqS (asgS (setT 6) (callE 2 F__law_roll [(varE 0), (varE 1)]))
    (asgS (tupT [(subT (varE 5) (varE 6)), (subT (varE 5) (bin2 subD (varE 6) (conE (.int 1))))]) (tupE [(bin2 ixD (varE 5) (bin2 subD (varE 6) (conE (.int 1)))), (bin2 ixD (varE 5) (varE 6))])))))
    (retS (tupE [(un1 tupleD (lcE [5] (seqI (varE 2)) (setT 5) [] (un1 tupleD (varE 5)))), (un1 tupleD (lcE [5] (seqI (varE 3)) (setT 5) [] (un1 tupleD (varE 5))))])))))
noncomputable def F__law_ring_wishes : Fn := fnD 2 7 B__law_ring_wishes
noncomputable def I__law_ring_wishes : FI := ⟨2, F__law_ring_wishes, 3⟩
def N__law_ring_wishes : List Str := ["dice", "n", "lefts", "rights", "turn", "row", "at", "l", "r"]
noncomputable def C__law_ring_wishes : Tc := ⟨N__law_ring_wishes, defScope (top 26), fun _ => true, [("_law_pick", I__law_pick), ("_law_roll", I__law_roll)], cV, cB, 2, 1000000⟩
theorem tr__law_ring_wishes : trSs (trs rules 40) stmts C__law_ring_wishes 60 (defBody (top 26)) = some B__law_ring_wishes := by kernel_rfl
/-! _law_renamed_wishes -/
noncomputable def B__law_renamed_wishes : S := (seqS (asgS (tupT [(setT 2), (setT 3)]) (varE 1))
    (seqS (asgS (tupT [(setT 4), (setT 5)]) (tupE [(callE 2 F__law_mixed [(varE 0), (un1 (listRange (.int 0)) (un1 lenD (varE 2)))]), (callE 2 F__law_mixed [(varE 0), (un1 (listRange (.int 0)) (un1 lenD (varE 3)))])]))
    (seqS (asgS (tupT [(setT 6), (setT 7)]) (tupE [(bin2 mulD (lstE [(tupE [])]) (un1 lenD (varE 2))), (bin2 mulD (lstE [(tupE [])]) (un1 lenD (varE 3)))]))
    (seqS (forS (enumI (varE 2)) (tupT [(setT 8), (setT 9)]) (asgS (subT (varE 6) (bin2 ixD (varE 4) (varE 8))) (un1 tupleD (lcE [10] (seqI (varE 9)) (setT 10) [] (bin2 ixD (varE 5) (varE 10))))))
    (seqS (forS (enumI (varE 3)) (tupT [(setT 10), (setT 9)]) (asgS (subT (varE 7) (bin2 ixD (varE 5) (varE 10))) (un1 tupleD (lcE [8] (seqI (varE 9)) (setT 8) [] (bin2 ixD (varE 4) (varE 8))))))
    (retS (tupE [(tupE [(un1 tupleD (varE 6)), (un1 tupleD (varE 7))]), (varE 4), (varE 5)])))))))
noncomputable def F__law_renamed_wishes : Fn := fnD 2 9 B__law_renamed_wishes
noncomputable def I__law_renamed_wishes : FI := ⟨2, F__law_renamed_wishes, 3⟩
def N__law_renamed_wishes : List Str := ["dice", "wishes", "lefts", "rights", "mine", "theirs", "one", "other", "l", "row", "r"]
noncomputable def C__law_renamed_wishes : Tc := ⟨N__law_renamed_wishes, defScope (top 28), fun _ => true, [("_law_mixed", I__law_mixed)], cV, cB, 2, 1000000⟩
theorem tr__law_renamed_wishes : trSs (trs rules 40) stmts C__law_renamed_wishes 60 (defBody (top 28)) = some B__law_renamed_wishes := by kernel_rfl
/-! _law_master_wishes -/
noncomputable def B__law_master_wishes : S := (seqS (asgS (tupT [(setT 3), (setT 4)]) (tupE [(callE 2 F__law_mixed [(varE 0), (un1 (listRange (.int 0)) (varE 1))]), (callE 2 F__law_mixed [(varE 0), (un1 (listRange (.int 0)) (varE 2))])]))
    (seqS (asgS (setT 5) (lstE []))
    (seqS (forS (range1I (varE 1)) (setT 6) (seqS (asgS (setT 7) (un1 listD (varE 4)))
    (seqS (asgS (setT 8) (callE 2 F__law_roll [(varE 0), (varE 2)]))
    (seqS (asgS (tupT [(subT (varE 7) (varE 8)), (subT (varE 7) (bin2 subD (varE 8) (conE (.int 1))))]) (tupE [(bin2 ixD (varE 7) (bin2 subD (varE 8) (conE (.int 1)))), (bin2 ixD (varE 7) (varE 8))]))
    (exprS (meth1s ["list"] appendD (varE 5) (un1 tupleD (varE 7))))))))
    (retS (tupE [(un1 tupleD (varE 5)), (un1 tupleD (lcE [9] (range1I (varE 2)) (setT 9) [] (un1 tupleD (varE 3))))])))))
noncomputable def F__law_master_wishes : Fn := fnD 3 7 B__law_master_wishes
noncomputable def I__law_master_wishes : FI := ⟨3, F__law_master_wishes, 3⟩
def N__law_master_wishes : List Str := ["dice", "n", "m", "order", "front", "lefts", "l", "row", "at", "r"]
noncomputable def C__law_master_wishes : Tc := ⟨N__law_master_wishes, defScope (top 29), fun _ => true, [("_law_mixed", I__law_mixed), ("_law_roll", I__law_roll)], cV, cB, 2, 1000000⟩
theorem tr__law_master_wishes : trSs (trs rules 40) stmts C__law_master_wishes 60 (defBody (top 29)) = some B__law_master_wishes := by kernel_rfl
/-! _law_bent -/
noncomputable def B__law_bent : S := (seqS (asgS (setT 2) (callE 2 F__law_roll [(varE 0), (conE (.int 2))]))
    (seqS (asgS (tupT [(setT 3), (setT 4)]) (tupE [(un1 listD (bin2 ixD (varE 1) (varE 2))), (un1 lenD (bin2 ixD (varE 1) (bin2 subD (conE (.int 1)) (varE 2))))]))
    (seqS (asgS (setT 5) (callE 2 F__law_roll [(varE 0), (un1 lenD (varE 3))]))
    (seqS (asgS (setT 6) (bin2 ixD (varE 3) (varE 5)))
    (seqS (asgS (setT 7) (lstE [(sliceE (varE 6) (some (conE (.int 1))) none), (sliceE (varE 6) none (some (un1 negD (conE (.int 1))))), (bin2 addD (varE 6) (sliceE (varE 6) none (some (conE (.int 1))))), (un1 revD (varE 6)), (bin2 addD (varE 6) (tupE [(varE 4)])), (bin2 addD (varE 6) (tupE [(un1 negD (conE (.int 1)))])), (un1 listD (varE 6)), (conE .non)]))
    (seqS (asgS (setT 7) (bin2 addD (varE 7) (lstE [(bin2 addD (varE 6) (tupE [(callE 2 F__law_roll [(varE 0), (varE 4)])])), (un1 tupleD (lcE [8] (seqI (varE 6)) (setT 8) [] (ifE (testE (bin2 (cmpD .Lt) (varE 8) (conE (.int 2)))) (bin2 (cmpD .Eq) (varE 8) (conE (.int 1))) (varE 8))))])))
    (seqS (asgS (setT 7) (bin2 addD (varE 7) (lstE [(bin2 addD (varE 6) (tupE [(conE (.str "0"))])), (bin2 addD (varE 6) (tupE [(conE .non)])), (tupE [(varE 6)])])))
    (seqS (asgS (subT (varE 3) (varE 5)) (callE 2 F__law_pick [(varE 0), (varE 7)]))
    (retS (ifE (testE (bin2 (cmpD .Eq) (varE 2) (conE (.int 0)))) (tupE [(un1 tupleD (varE 3)), (bin2 ixD (varE 1) (conE (.int 1)))]) (tupE [(bin2 ixD (varE 1) (conE (.int 0))), (un1 tupleD (varE 3))])))))))))))
noncomputable def F__law_bent : Fn := fnD 2 7 B__law_bent
noncomputable def I__law_bent : FI := ⟨2, F__law_bent, 3⟩
def N__law_bent : List Str := ["dice", "wishes", "side", "rows", "many", "at", "row", "some", "one"]
noncomputable def C__law_bent : Tc := ⟨N__law_bent, defScope (top 33), fun _ => true, [("_law_pick", I__law_pick), ("_law_roll", I__law_roll)], cV, cB, 2, 1000000⟩
theorem tr__law_bent : trSs (trs rules 40) stmts C__law_bent 60 (defBody (top 33)) = some B__law_bent := by kernel_rfl
/-! is_side_of_lists -/
noncomputable def B_is_side_of_lists : S := (seqS (ifS (orT (notT (testE (un1 (isInst "tuple") (varE 0)))) (notT (testE (chainE (cmpD .LtE) (cmpD .LtE) (conE (.int 1)) (un1 lenD (varE 0)) (conE (.int 40)))))) (retS (conE (.bl false))) nopS)
    (retS (un1 allD (lcE [2] (seqI (varE 0)) (setT 2) [] (callE 2 F_is_list_of [(varE 2), (varE 1)])))))
noncomputable def F_is_side_of_lists : Fn := fnD 2 1 B_is_side_of_lists
noncomputable def I_is_side_of_lists : FI := ⟨2, F_is_side_of_lists, 4⟩
def N_is_side_of_lists : List Str := ["value", "most", "row"]
noncomputable def C_is_side_of_lists : Tc := ⟨N_is_side_of_lists, defScope (top 10), fun _ => true, [("is_list_of", I_is_list_of)], cV, cB, 3, 1000000⟩
theorem tr_is_side_of_lists : trSs (trs rules 40) stmts C_is_side_of_lists 60 (defBody (top 10)) = some B_is_side_of_lists := by kernel_rfl
/-! _law_whole_wishes -/
noncomputable def B__law_whole_wishes : S := (retS (callE 4 F__law_wishes_of [(varE 0), (callE 2 F__law_grid [(varE 1), (varE 1)]), (varE 1), (varE 1)]))
noncomputable def F__law_whole_wishes : Fn := fnD 2 0 B__law_whole_wishes
noncomputable def I__law_whole_wishes : FI := ⟨2, F__law_whole_wishes, 4⟩
def N__law_whole_wishes : List Str := ["dice", "n"]
noncomputable def C__law_whole_wishes : Tc := ⟨N__law_whole_wishes, defScope (top 24), fun _ => true, [("_law_grid", I__law_grid), ("_law_wishes_of", I__law_wishes_of)], cV, cB, 3, 1000000⟩
theorem tr__law_whole_wishes : trSs (trs rules 40) stmts C__law_whole_wishes 60 (defBody (top 24)) = some B__law_whole_wishes := by kernel_rfl
/-! _law_cut_wishes -/
noncomputable def B__law_cut_wishes : S := (seqS (asgS (setT 3) (callE 2 F__law_pick [(varE 0), (lstE [(conE (.int 1)), (conE (.int 2)), (conE (.int 3)), (conE (.int 5))])]))
    (seqS (asgS (setT 4) (lcE [5] (seqI (callE 2 F__law_grid [(varE 1), (varE 2)])) (setT 5) [(testE (bin2 (cmpD .Gt) (callE 2 F__law_roll [(varE 0), (bin2 addD (varE 3) (conE (.int 1)))]) (conE (.int 0))))] (varE 5)))
    (retS (callE 4 F__law_wishes_of [(varE 0), (varE 4), (varE 1), (varE 2)]))))
noncomputable def F__law_cut_wishes : Fn := fnD 3 3 B__law_cut_wishes
noncomputable def I__law_cut_wishes : FI := ⟨3, F__law_cut_wishes, 4⟩
def N__law_cut_wishes : List Str := ["dice", "n", "m", "part", "pairs", "pair"]
noncomputable def C__law_cut_wishes : Tc := ⟨N__law_cut_wishes, defScope (top 25), fun _ => true, [("_law_grid", I__law_grid), ("_law_pick", I__law_pick), ("_law_roll", I__law_roll), ("_law_wishes_of", I__law_wishes_of)], cV, cB, 3, 1000000⟩
theorem tr__law_cut_wishes : trSs (trs rules 40) stmts C__law_cut_wishes 60 (defBody (top 25)) = some B__law_cut_wishes := by kernel_rfl
/-! has_form -/
noncomputable def B_has_form : S := (seqS (ifS (orT (notT (testE (callE 1 F_is_pair [(varE 0)]))) (orT (notT (testE (un1 (isInst "tuple") (bin2 ixD (varE 0) (conE (.int 0)))))) (notT (testE (un1 (isInst "tuple") (bin2 ixD (varE 0) (conE (.int 1)))))))) (retS (conE (.bl false))) nopS)
    (retS (andE (callE 2 F_is_side_of_lists [(bin2 ixD (varE 0) (conE (.int 0))), (un1 lenD (bin2 ixD (varE 0) (conE (.int 1))))]) (callE 2 F_is_side_of_lists [(bin2 ixD (varE 0) (conE (.int 1))), (un1 lenD (bin2 ixD (varE 0) (conE (.int 0))))]))))
noncomputable def F_has_form : Fn := fnD 1 0 B_has_form
noncomputable def I_has_form : FI := ⟨1, F_has_form, 5⟩
def N_has_form : List Str := ["value"]
noncomputable def C_has_form : Tc := ⟨N_has_form, defScope (top 12), fun _ => true, [("is_pair", I_is_pair), ("is_side_of_lists", I_is_side_of_lists)], cV, cB, 4, 1000000⟩
theorem tr_has_form : trSs (trs rules 40) stmts C_has_form 60 (defBody (top 12)) = some B_has_form := by kernel_rfl
/-! _law_drawn_wishes -/
noncomputable def B__law_drawn_wishes : S := (seqS (asgS (tupT [(setT 2), (setT 3), (setT 4)]) (tupE [(bin2 addD (conE (.int 1)) (callE 2 F__law_roll [(varE 0), (varE 1)])), (bin2 addD (conE (.int 1)) (callE 2 F__law_roll [(varE 0), (varE 1)])), (callE 2 F__law_roll [(varE 0), (conE (.int 7))])]))
    (seqS (ifS (testE (bin2 (cmpD .Eq) (varE 4) (conE (.int 0)))) (retS (callE 3 F__law_cut_wishes [(varE 0), (varE 2), (varE 3)])) nopS)
    (seqS (ifS (testE (bin2 (cmpD .Eq) (varE 4) (conE (.int 1)))) (retS (callE 3 F__law_master_wishes [(varE 0), (varE 2), (varE 3)])) nopS)
    (seqS (ifS (testE (bin2 (cmpD .Eq) (varE 4) (conE (.int 2)))) (retS (callE 2 F__law_whole_wishes [(varE 0), (varE 2)])) nopS)
    (seqS (ifS (andT (testE (bin2 (cmpD .Eq) (varE 4) (conE (.int 3)))) (testE (bin2 (cmpD .Gt) (varE 1) (conE (.int 3))))) (seqS (asgS (setT 5) (bin2 fdivD (varE 1) (conE (.int 2))))
    (retS (callE 2 F__law_beside [(callE 2 F__law_ring_wishes [(varE 0), (varE 5)]), (callE 3 F__law_cut_wishes [(varE 0), (bin2 subD (varE 1) (varE 5)), (bin2 subD (varE 1) (varE 5))])]))) nopS)
    (seqS (ifS (andT (testE (bin2 (cmpD .Eq) (varE 4) (conE (.int 4)))) (testE (bin2 (cmpD .Gt) (varE 1) (conE (.int 3))))) (seqS (asgS (setT 6) (callE 2 F__law_ring_wishes [(varE 0), (conE (.int 2))]))
    (retS (bin2 ixD (callE 2 F__law_renamed_wishes [(varE 0), (callE 2 F__law_beside [(varE 6), (callE 2 F__law_ring_wishes [(varE 0), (bin2 subD (varE 1) (conE (.int 2)))])])]) (conE (.int 0))))) nopS)
    (retS (ifE (testE (bin2 (cmpD .Gt) (varE 1) (conE (.int 1)))) (bin2 ixD (callE 2 F__law_renamed_wishes [(varE 0), (callE 2 F__law_ring_wishes [(varE 0), (bin2 maxD (conE (.int 2)) (varE 2))])]) (conE (.int 0))) (callE 2 F__law_whole_wishes [(varE 0), (conE (.int 1))])))))))))
noncomputable def F__law_drawn_wishes : Fn := fnD 2 5 B__law_drawn_wishes
noncomputable def I__law_drawn_wishes : FI := ⟨2, F__law_drawn_wishes, 5⟩
def N__law_drawn_wishes : List Str := ["dice", "most", "n", "m", "way", "half", "two"]
noncomputable def C__law_drawn_wishes : Tc := ⟨N__law_drawn_wishes, defScope (top 30), fun _ => true, [("_law_beside", I__law_beside), ("_law_cut_wishes", I__law_cut_wishes), ("_law_master_wishes", I__law_master_wishes), ("_law_renamed_wishes", I__law_renamed_wishes), ("_law_ring_wishes", I__law_ring_wishes), ("_law_roll", I__law_roll), ("_law_whole_wishes", I__law_whole_wishes)], cV, cB, 4, 1000000⟩
theorem tr__law_drawn_wishes : trSs (trs rules 40) stmts C__law_drawn_wishes 60 (defBody (top 30)) = some B__law_drawn_wishes := by kernel_rfl
/-! fault_in -/
noncomputable def B_fault_in : S := (seqS (ifS (notT (testE (callE 1 F_has_form [(varE 0)]))) (retS (tupE [(conE (.str "form"))])) nopS)
    (seqS (forS (seqI (tupE [(tupE [(conE (.str "left")), (bin2 ixD (varE 0) (conE (.int 0))), (bin2 ixD (varE 0) (conE (.int 1)))]), (tupE [(conE (.str "right")), (bin2 ixD (varE 0) (conE (.int 1))), (bin2 ixD (varE 0) (conE (.int 0)))])])) (tupT [(setT 1), (setT 2), (setT 3)]) (forS (enumI (varE 2)) (tupT [(setT 4), (setT 5)]) (forS (seqI (varE 5)) (setT 6) (ifS (testE (bin2 (cmpD .NotIn) (varE 4) (bin2 ixD (varE 3) (varE 6)))) (retS (tupE [(varE 1), (varE 4), (varE 6)])) nopS))))
    (retS (conE .non))))
noncomputable def F_fault_in : Fn := fnD 1 6 B_fault_in
noncomputable def I_fault_in : FI := ⟨1, F_fault_in, 6⟩
def N_fault_in : List Str := ["value", "side", "lists", "others", "person", "row", "other"]
noncomputable def C_fault_in : Tc := ⟨N_fault_in, defScope (top 13), fun _ => true, [("has_form", I_has_form)], cV, cB, 5, 1000000⟩
theorem tr_fault_in : trSs (trs rules 40) stmts C_fault_in 60 (defBody (top 13)) = some B_fault_in := by kernel_rfl
/-! is_wishes_in -/
noncomputable def B_is_wishes_in : S := (retS (bin2 (cmpD .Is) (callE 1 F_fault_in [(varE 0)]) (conE .non)))
noncomputable def F_is_wishes_in : Fn := fnD 1 0 B_is_wishes_in
noncomputable def I_is_wishes_in : FI := ⟨1, F_is_wishes_in, 7⟩
def N_is_wishes_in : List Str := ["value"]
noncomputable def C_is_wishes_in : Tc := ⟨N_is_wishes_in, defScope (top 14), fun _ => true, [("fault_in", I_fault_in)], cV, cB, 6, 1000000⟩
theorem tr_is_wishes_in : trSs (trs rules 40) stmts C_is_wishes_in 60 (defBody (top 14)) = some B_is_wishes_in := by kernel_rfl
/-! fault_of -/
noncomputable def B_fault_of : S := (retS (callE 1 F_fault_in [(varE 0)]))
noncomputable def F_fault_of : Fn := fnD 1 0 B_fault_of
noncomputable def I_fault_of : FI := ⟨1, F_fault_of, 7⟩
def N_fault_of : List Str := ["value"]
noncomputable def C_fault_of : Tc := ⟨N_fault_of, defScope (top 16), fun _ => true, [("fault_in", I_fault_in)], cV, cB, 6, 1000000⟩
theorem tr_fault_of : trSs (trs rules 40) stmts C_fault_of 60 (defBody (top 16)) = some B_fault_of := by kernel_rfl
/-! is_wishes -/
noncomputable def B_is_wishes : S := (retS (callE 1 F_is_wishes_in [(varE 0)]))
noncomputable def F_is_wishes : Fn := fnD 1 0 B_is_wishes
noncomputable def I_is_wishes : FI := ⟨1, F_is_wishes, 8⟩
def N_is_wishes : List Str := ["value"]
noncomputable def C_is_wishes : Tc := ⟨N_is_wishes, defScope (top 15), fun _ => true, [("is_wishes_in", I_is_wishes_in)], cV, cB, 7, 1000000⟩
theorem tr_is_wishes : trSs (trs rules 40) stmts C_is_wishes 60 (defBody (top 15)) = some B_is_wishes := by kernel_rfl
/-! _law_right -/
noncomputable def B__law_right : S := (seqS (asgS (setT 1) (callE 2 F__law_drawn_wishes [(varE 0), (callE 2 F__law_pick [(varE 0), (lstE [(conE (.int 1)), (conE (.int 2)), (conE (.int 4)), (conE (.int 7))])])]))
    (seqS (asgS (tupT [(setT 2), (setT 3)]) (varE 1))
    (seqS (asgS (setT 4) (lstE [(varE 1), (un1 listD (varE 1)), (varE 2), (tupE [(varE 2)]), (tupE [(varE 2), (varE 3), (tupE [])]), (tupE [(varE 3), (varE 2)]), (tupE [(sliceE (varE 2) (some (conE (.int 1))) none), (varE 3)])]))
    (seqS (asgS (setT 4) (bin2 addD (varE 4) (lstE [(tupE [(varE 2), (bin2 addD (varE 3) (tupE [(tupE [])]))]), (tupE [(varE 2), (un1 listD (varE 3))]), (tupE [(bin2 addD (varE 2) (tupE [(tupE [])])), (varE 3)]), (tupE [(tupE []), (tupE [])]), (tupE [(varE 2), (conE .non)])])))
    (seqS (asgS (setT 4) (bin2 addD (varE 4) (lstE [(conE .non), (conE (.int 0)), (conE (.str "wishes")), newD, (tupE [(tupE []), (varE 3)])])))
    (seqS (forS (range1I (conE (.int 10))) (setT 5) (exprS (meth1s ["list"] appendD (varE 4) (callE 2 F__law_bent [(varE 0), (varE 1)]))))
    (seqS (forS (seqI (varE 4)) (setT 6) (seqS (asgS (setT 7) (callE 1 F__law_fault [(varE 6)]))
    (ifS (orT (testE (bin2 (cmpD .NotEq) (un1 reprD (callE 1 F_fault_of [(varE 6)])) (un1 reprD (varE 7)))) (testE (bin2 (cmpD .NotEq) (un1 reprD (callE 1 F_is_wishes [(varE 6)])) (un1 reprD (bin2 (cmpD .Is) (varE 7) (conE .non)))))) (retS (conE (.bl false))) nopS)))
    (retS (conE (.bl true))))))))))
noncomputable def F__law_right : Fn := fnD 1 7 B__law_right
noncomputable def I__law_right : FI := ⟨1, F__law_right, 9⟩
def N__law_right : List Str := ["dice", "wishes", "lefts", "rights", "near", "turn", "value", "due"]
noncomputable def C__law_right : Tc := ⟨N__law_right, defScope (top 34), fun _ => true, [("_law_bent", I__law_bent), ("_law_drawn_wishes", I__law_drawn_wishes), ("_law_fault", I__law_fault), ("_law_pick", I__law_pick), ("fault_of", I_fault_of), ("is_wishes", I_is_wishes)], cV, cB, 8, 1000000⟩
theorem tr__law_right : trSs (trs rules 40) stmts C__law_right 60 (defBody (top 34)) = some B__law_right := by kernel_rfl
/-! law -/
noncomputable def B_law : S := (seqS (forS (range1I (bin2 maxD (conE (.int 1)) (bin2 minD (conE (.int 5)) (un1 lenD (varE 0))))) (setT 1) (seqS (asgS (setT 6) (callE 2 F__law_dice [(varE 0), (varE 1)]))
    (forS (range1I (conE (.int 4))) (setT 7) (ifS (notT (testE (callE 1 F__law_right [(varE 6)]))) (retS (conE (.bl false))) nopS))))
    (seqS (asgS (tupT [(setT 2), (setT 3)]) (tupE [(un1 tupleD (bin2 mulD (lstE [(tupE [])]) (conE (.int 40)))), (un1 tupleD (bin2 mulD (lstE [(tupE [])]) (conE (.int 41))))]))
    (seqS (asgS (setT 4) (lstE [(callE 1 F_is_wishes [(tupE [(varE 2), (varE 2)])]), (callE 1 F_is_wishes [(tupE [(varE 3), (varE 2)])]), (callE 1 F_is_wishes [(tupE [(varE 2), (varE 3)])]), (callE 1 F_fault_of [(tupE [(tupE [(tupE [(conE (.int 0))])]), (tupE [(tupE [])])])])]))
    (seqS (asgS (setT 4) (bin2 addD (varE 4) (lstE [(callE 1 F_fault_of [(tupE [(tupE [(tupE [])]), (tupE [(tupE [(conE (.int 0))])])])]), (callE 1 F_fault_of [(tupE [(tupE [(tupE [(conE (.int 0)), (conE (.int 0))])]), (tupE [(tupE [(conE (.int 0))])])])])])))
    (seqS (exprS (meth1s ["list"] appendD (varE 4) (callE 1 F_fault_of [(tupE [(tupE [(tupE [(conE (.int 1)), (conE (.int 0))]), (tupE [(conE (.int 0))])]), (tupE [(tupE [(conE (.int 0))]), (tupE [(conE (.int 0)), (conE (.int 1))])])])])))
    (seqS (asgS (setT 5) (lstE [(conE (.bl true)), (conE (.bl false)), (conE (.bl false)), (tupE [(conE (.str "left")), (conE (.int 0)), (conE (.int 0))]), (tupE [(conE (.str "right")), (conE (.int 0)), (conE (.int 0))]), (tupE [(conE (.str "form"))]), (tupE [(conE (.str "left")), (conE (.int 1)), (conE (.int 0))])]))
    (retS (andE (bin2 (cmpD .Eq) (varE 4) (varE 5)) (bin2 (cmpD .Eq) (conE (.int 40)) (conE (.int 40)))))))))))
noncomputable def F_law : Fn := fnD 1 7 B_law
noncomputable def I_law : FI := ⟨1, F_law, 10⟩
def N_law : List Str := ["script", "spot", "wide", "more", "told", "due", "dice", "turn"]
noncomputable def C_law : Tc := ⟨N_law, defScope (top 35), fun _ => true, [("_law_dice", I__law_dice), ("_law_right", I__law_right), ("fault_of", I_fault_of), ("is_wishes", I_is_wishes)], cV, cB, 9, 1000000⟩
theorem tr_law : trSs (trs rules 40) stmts C_law 60 (defBody (top 35)) = some B_law := by kernel_rfl
end Law
set_option Elab.async false
set_option linter.all false
set_option maxRecDepth 100000
set_option maxHeartbeats 4000000
/-! Ev, part 23: plain lemmas: what combinators answer. -/
namespace Ev
open PySem
section
variable {α β : Type} {fr : Fr} {st : Sto} {a b c o e : Ex} {s t u : S}
@[simp] theorem bnd_app (m : M α) (f : α → M β) (st : Sto) : bnd m f st = (m st).bnd f := rfl
@[simp] theorem ret_app (x : α) (st : Sto) : ret x st = .ok x st := rfl
@[simp] theorem stk_app (st : Sto) : (stk : M α) st = .stuck := rfl
@[simp] theorem conE_app (d : D) : conE d fr st = .ok d st := rfl
theorem varE_at {i : Nat} {d : D} (h : fr[i]? = some (some d)) : varE i fr st = .ok d st := by unfold varE; rw [h]
@[simp] theorem varE_0 {d : D} {r : Fr} : varE 0 (some d :: r) st = .ok d st := rfl
@[simp] theorem varE_s {i : Nat} {x : Option D} {r : Fr} : varE (i + 1) (x :: r) st = varE i r st := rfl
@[simp] theorem varE_1 {d x : Option D} {r : Fr} : varE 1 (d :: r) st = varE 0 r st := rfl
@[simp] theorem varE_2 {d x : Option D} {r : Fr} : varE 2 (d :: r) st = varE 1 r st := rfl
@[simp] theorem varE_3 {d x : Option D} {r : Fr} : varE 3 (d :: r) st = varE 2 r st := rfl
@[simp] theorem varE_4 {d x : Option D} {r : Fr} : varE 4 (d :: r) st = varE 3 r st := rfl
@[simp] theorem varE_5 {d x : Option D} {r : Fr} : varE 5 (d :: r) st = varE 4 r st := rfl
@[simp] theorem varE_6 {d x : Option D} {r : Fr} : varE 6 (d :: r) st = varE 5 r st := rfl
@[simp] theorem varE_7 {d x : Option D} {r : Fr} : varE 7 (d :: r) st = varE 6 r st := rfl
@[simp] theorem varE_8 {d x : Option D} {r : Fr} : varE 8 (d :: r) st = varE 7 r st := rfl
@[simp] theorem varE_9 {d x : Option D} {r : Fr} : varE 9 (d :: r) st = varE 8 r st := rfl
@[simp] theorem varE_10 {d x : Option D} {r : Fr} : varE 10 (d :: r) st = varE 9 r st := rfl
@[simp] theorem varE_11 {d x : Option D} {r : Fr} : varE 11 (d :: r) st = varE 10 r st := rfl
@[simp] theorem un1_app (f : D → M D) : un1 f a fr st = (a fr st).bnd f := rfl
@[simp] theorem bin2_app (f : D → D → M D) : bin2 f a b fr st = (a fr st).bnd fun x => bnd (b fr) fun y => f x y := rfl
@[simp] theorem andE_app : andE a b fr st = (a fr st).bnd fun x => bnd (truD x) fun c => if c then b fr else ret x := rfl
@[simp] theorem orE_app : orE a b fr st = (a fr st).bnd fun x => bnd (truD x) fun c => if c then ret x else b fr := rfl
@[simp] theorem notE_app : notE a fr st = (a fr st).bnd fun x => bnd (truD x) fun c => ret (.bl (!c)) := rfl
@[simp] theorem ifE_app {q : Te} : ifE q a b fr st = (q fr st).bnd fun c => if c then a fr else b fr := rfl
@[simp] theorem testE_app : testE a fr st = (a fr st).bnd truD := rfl
@[simp] theorem notT_app {q : Te} : notT q fr st = (q fr st).bnd fun b => ret (!b) := rfl
@[simp] theorem andT_app {q r : Te} : andT q r fr st = (q fr st).bnd fun b => if b then r fr else ret false := rfl
@[simp] theorem orT_app {q r : Te} : orT q r fr st = (q fr st).bnd fun b => if b then ret true else r fr := rfl
@[simp] theorem chainE_app (f g : D → D → M D) : chainE f g a b c fr st = (a fr st).bnd fun x => bnd (b fr) fun y => bnd (f x y) fun z => bnd (truD z) fun k => if k then bnd (c fr) fun w => g y w else ret z := rfl
@[simp] theorem retS_app : retS e fr st = (e fr st).bnd fun d => ret (.rt d) := rfl
@[simp] theorem seqS_app : seqS s t fr st = (s fr st).bnd fun f => match f with
  | .nx fr => t fr
  | f => ret f := rfl
@[simp] theorem ifS_app {q : Te} : ifS q s t fr st = (q fr st).bnd fun c => if c then s fr else t fr := rfl
@[simp] theorem nopS_app : nopS fr st = .ok (.nx fr) st := rfl
@[simp] theorem asgS_app {q : Tg} : asgS q e fr st = (e fr st).bnd fun d => bnd (q d fr) fun fr => ret (.nx fr) := rfl
@[simp] theorem exprS_app : exprS e fr st = (e fr st).bnd fun _ => ret (.nx fr) := rfl
@[simp] theorem truD_bl {k : Bool} : truD (.bl k) st = .ok k st := rfl
@[simp] theorem callE_app {n : Nat} {f : Fn} {es : List Ex} : callE n f es fr st = (allS es fr st).bnd fun ds => if ds.length = n then f ds else stk := rfl
@[simp] theorem allS_nil : allS [] fr st = .ok [] st := rfl
@[simp] theorem allS_cons {es : List Ex} : allS (e :: es) fr st = (e fr st).bnd fun d => bnd (settle d) fun d => bnd (allS es fr) fun ds => ret (d :: ds) := rfl
/-- a value that is no fresh thing -/
def D.kept : D → Bool
  | .tmp _ => false
  | _ => true
theorem settle_kept {d : D} (h : d.kept = true) : settle d st = .ok d st := by cases d <;> first | rfl | cases h
@[simp] theorem settle_tmp {c : Cell} : settle (.tmp c) st = .ok (.ref st.length) (st ++ [c]) := rfl
@[simp] theorem settle_bl {k : Bool} : settle (.bl k) st = .ok (.bl k) st := rfl
@[simp] theorem settle_int {k : Int} : settle (.int k) st = .ok (.int k) st := rfl
@[simp] theorem settle_non : settle .non st = .ok .non st := rfl
@[simp] theorem settle_str {k : Str} : settle (.str k) st = .ok (.str k) st := rfl
@[simp] theorem settle_tup {k : List D} : settle (.tup k) st = .ok (.tup k) st := rfl
@[simp] theorem settle_ref {k : Nat} : settle (.ref k) st = .ok (.ref k) st := rfl
theorem isInst_eq {T t : String} {x : D} (h : typeName st x = some t) : isInst T x st = .ok (.bl (t == T || (t == "bool" && T == "int"))) st := by
  unfold isInst
  rw [h]
theorem Kept.refl (st : Sto) : Kept st st := ⟨fun _ _ _ e => .inl e, Nat.le_refl _⟩
theorem sweep_same {d : D} (h : d.lower st.length = true) : sweep st d st = .ok d st := by
  unfold sweep
  rw [if_pos (Kept.refl st), if_pos h, List.take_length]
@[simp] theorem lower_bl {n : Nat} {k : Bool} : (D.bl k).lower n = true := rfl
@[simp] theorem lower_int {n : Nat} {k : Int} : (D.int k).lower n = true := rfl
@[simp] theorem lower_non {n : Nat} : D.non.lower n = true := rfl
@[simp] theorem lower_str {n : Nat} {k : Str} : (D.str k).lower n = true := rfl
@[simp] theorem sweep_bl {k : Bool} : sweep st (.bl k) st = .ok (.bl k) st := sweep_same rfl
@[simp] theorem sweep_int {k : Int} : sweep st (.int k) st = .ok (.int k) st := sweep_same rfl
@[simp] theorem sweep_non : sweep st .non st = .ok .non st := sweep_same rfl
/-- behind a call: what was made is dropped -/
theorem sweep_drop {d : D} {new : Sto} (h : d.lower st.length = true) : sweep st d (st ++ new) = .ok d st := by
  unfold sweep
  have k : Kept st (st ++ new) := ⟨fun i c hi e => by
    rw [List.getElem?_append_left hi] at e
    exact .inl e, by simp⟩
  rw [if_pos k, if_pos h, List.take_left']
  rfl
theorem fnD_ok {n m : Nat} {body : S} {ds : List D} {r : R Fl} (hn : ds.length = n) (h : body (ds.map some ++ List.replicate m none) st = r) : fnD n m body ds st = endS st r := by
  unfold fnD
  rw [if_pos hn, h]
/-! ### comprehensions that change nothing -/
theorem lcLoop_pure {q : Tg} {ts : List Te} {fr1 : D → Fr} {p : D → Bool} {g : D → D} : ∀ {items acc : List D}, (∀ x ∈ items, q x fr st = .ok (fr1 x) st) → (∀ x ∈ items, allT ts (fr1 x) st = .ok (p x) st) → (∀ x ∈ items, p x = true → e (fr1 x) st = .ok (g x) st ∧ (g x).kept = true) →
    lcLoop q ts e fr items acc st = .ok (acc ++ (items.filter p).map g) st
  | [], acc, _, _, _ => by simp [lcLoop]
  | x :: xs, acc, h1, h2, h3 => by
    have e1 := h1 x List.mem_cons_self
    have e2 := h2 x List.mem_cons_self
    have ih := fun acc => lcLoop_pure (items := xs) (acc := acc) (fun y m => h1 y (List.mem_cons_of_mem _ m)) (fun y m => h2 y (List.mem_cons_of_mem _ m)) (fun y m => h3 y (List.mem_cons_of_mem _ m))
    unfold lcLoop
    rw [bnd_app, e1, bnd_ok, bnd_app, e2, bnd_ok]
    cases hp : p x with
    | false =>
      rw [if_neg Bool.false_ne_true, ih, List.filter_cons, hp]
      rfl
    | true =>
      obtain ⟨e3, k⟩ := h3 x List.mem_cons_self hp
      rw [if_pos rfl, bnd_app, e3, bnd_ok, bnd_app, settle_kept k, bnd_ok, ih, List.filter_cons, hp, if_pos rfl, List.map_cons, List.append_assoc]
      rfl
theorem lcE_pure {own : List Nat} {it : It} {q : Tg} {ts : List Te} {items : List D} {ns : List Nat} {st1 : Sto} {fr1 : D → Fr} {p : D → Bool} {g : D → D} (hi : it fr st = .ok ⟨items, ns⟩ st1) (h1 : ∀ x ∈ items, q x (wipe fr own) st1 = .ok (fr1 x) st1) (h2 : ∀ x ∈ items, allT ts (fr1 x) st1 = .ok (p x) st1)
    (h3 : ∀ x ∈ items, p x = true → e (fr1 x) st1 = .ok (g x) st1 ∧ (g x).kept = true) : lcE own it q ts e fr st = .ok (.tmp (.lst ((items.filter p).map g))) (unlocks ns st1) := by
  show (it fr st).bnd _ = _
  rw [hi, bnd_ok]
  show (locked0 ns (lcLoop q ts e (wipe fr own) items []) st1).bnd _ = _
  unfold locked0
  rw [lcLoop_pure h1 h2 h3]
  rfl
theorem allT_nil : allT [] fr st = .ok true st := rfl
theorem allT_one {q : Te} {k : Bool} (h : q fr st = .ok k st) : allT [q] fr st = .ok k st := by
  show (q fr st).bnd _ = _
  rw [h]
  cases k <;> rfl
theorem filter_true {l : List D} : l.filter (fun _ => true) = l := List.filter_eq_self.mpr fun _ _ => rfl
/-- .. without tests -/
theorem lcE_map {own : List Nat} {it : It} {q : Tg} {items : List D} {ns : List Nat} {st1 : Sto} {fr1 : D → Fr} {g : D → D} (hi : it fr st = .ok ⟨items, ns⟩ st1) (h1 : ∀ x ∈ items, q x (wipe fr own) st1 = .ok (fr1 x) st1) (h3 : ∀ x ∈ items, e (fr1 x) st1 = .ok (g x) st1 ∧ (g x).kept = true) :
    lcE own it q [] e fr st = .ok (.tmp (.lst (items.map g))) (unlocks ns st1) := by
  have := lcE_pure (p := fun _ => true) hi h1 (fun x _ => allT_nil) (fun x m _ => h3 x m)
  rwa [filter_true] at this
/-- the entries of a dict comprehension -/
def dcOf (k : D → NestedKey) (g : D → D) (items : List D) : List (NestedKey × D) := items.foldl (fun acc x => putD acc (k x) (g x)) []
theorem dcLoop_pure {q : Tg} {fr1 : D → Fr} {ek : Ex} {ky : D → D} {k : D → NestedKey} {g : D → D} : ∀ {items : List D} {acc : List (NestedKey × D)}, (∀ x ∈ items, q x fr st = .ok (fr1 x) st) → (∀ x ∈ items, ek (fr1 x) st = .ok (ky x) st ∧ keyOf (ky x) = some (k x)) → (∀ x ∈ items, e (fr1 x) st = .ok (g x) st ∧ (g x).kept = true) →
    dcLoop q [] ek e fr items acc st = .ok (items.foldl (fun acc x => putD acc (k x) (g x)) acc) st
  | [], acc, _, _, _ => rfl
  | x :: xs, acc, h1, h2, h3 => by
    have e1 := h1 x List.mem_cons_self
    obtain ⟨e2, e4⟩ := h2 x List.mem_cons_self
    obtain ⟨e3, kp⟩ := h3 x List.mem_cons_self
    have ih := fun acc => dcLoop_pure (items := xs) (acc := acc) (fun y m => h1 y (List.mem_cons_of_mem _ m)) (fun y m => h2 y (List.mem_cons_of_mem _ m)) (fun y m => h3 y (List.mem_cons_of_mem _ m))
    have ek : keyM (ky x) st = .ok (k x) st := by unfold keyM; rw [e4]
    unfold dcLoop
    rw [bnd_app, e1, bnd_ok, bnd_app, allT_nil, bnd_ok, if_pos rfl, bnd_app, e2, bnd_ok, bnd_app, e3, bnd_ok, bnd_app, settle_kept kp, bnd_ok, bnd_app, ek, bnd_ok, ih]
    rfl
theorem dcE_map {own : List Nat} {it : It} {q : Tg} {items : List D} {ns : List Nat} {st1 : Sto} {fr1 : D → Fr} {ek : Ex} {ky : D → D} {k : D → NestedKey} {g : D → D} (hi : it fr st = .ok ⟨items, ns⟩ st1) (h1 : ∀ x ∈ items, q x (wipe fr own) st1 = .ok (fr1 x) st1) (h2 : ∀ x ∈ items, ek (fr1 x) st1 = .ok (ky x) st1 ∧ keyOf (ky x) = some (k x))
    (h3 : ∀ x ∈ items, e (fr1 x) st1 = .ok (g x) st1 ∧ (g x).kept = true) : dcE own it q [] ek e fr st = .ok (.tmp (.dct (dcOf k g items))) (unlocks ns st1) := by
  show (it fr st).bnd _ = _
  rw [hi, bnd_ok]
  show (locked0 ns (dcLoop q [] ek e (wipe fr own) items []) st1).bnd _ = _
  unfold locked0
  rw [dcLoop_pure h1 h2 h3]
  rfl
/-! ### loops -/
theorem loop_ok {q : Tg} {body : S} (I : List D → Fr → Sto → Prop) {P : Fl → Sto → Prop} (step : ∀ x xs fr st, I (x :: xs) fr st → ∃ fr1 st1, q x fr st = .ok fr1 st1 ∧ ∃ f st2, body fr1 st1 = .ok f st2 ∧ match f with
      | .nx fr2 => I xs fr2 st2
      | .bk fr2 => P (.nx fr2) st2
      | .rt d => P (.rt d) st2) (done : ∀ fr st, I [] fr st → P (.nx fr) st) : ∀ xs fr st, I xs fr st → ∃ f st', loop q body xs fr st = .ok f st' ∧ P f st'
  | [], fr, st, h => ⟨_, _, rfl, done fr st h⟩
  | x :: xs, fr, st, h => by
    obtain ⟨fr1, st1, e1, f, st2, e2, hf⟩ := step x xs fr st h
    unfold loop
    rw [bnd_app, e1, bnd_ok, bnd_app, e2, bnd_ok]
    cases f with
    | nx fr2 => exact loop_ok I step done xs fr2 st2 hf
    | bk fr2 => exact ⟨_, _, rfl, hf⟩
    | rt d => exact ⟨_, _, rfl, hf⟩
theorem forS_ok {it : It} {q : Tg} {body : S} {items : List D} {ns : List Nat} {st1 st2 : Sto} {f : Fl} (hi : it fr st = .ok ⟨items, ns⟩ st1) (h : loop q body items fr st1 = .ok f st2) : forS it q body fr st = .ok f (unlocks ns st2) := by
  show (it fr st).bnd _ = _
  rw [hi, bnd_ok]
  unfold locked
  rw [h]
  rfl
theorem unlocks_nil : unlocks [] st = st := rfl
/-! ### equality, repr -/
theorem eqD_int {i j : Int} : eqD (.int i) (.int j) st = .ok (.bl (decide (i = j))) st := by
  unfold eqD eqStr eqPy toPy
  simp [SeqAt.shaped, PyData.eqv, PyData.canLay0, PyData.depth]
  by_cases h : i = j <;> simp [h]
end
end Ev
set_option Elab.async false
set_option linter.all false
set_option maxRecDepth 100000
set_option maxHeartbeats 4000000
namespace Law
open PySem Ev
theorem f_is_whole {v : D} {st : Sto} {T : String} (h : typeName st v = some T) : F_is_whole [v] st = .ok (.bl (T == "int")) st := by
  have e : B_is_whole ([v].map some ++ List.replicate 0 none) st = .ok (.rt (.bl (T == "int"))) st := by
    simp only [B_is_whole, List.map_cons, List.map_nil, List.replicate_zero, List.append_nil, retS_app, andE_app, un1_app, varE_0, bnd_ok, isInst_eq h, bnd_app, truD_bl]
    by_cases h1 : T = "int"
    · subst h1; simp [isInst_eq h]
    · by_cases h2 : T = "bool"
      · subst h2; simp [isInst_eq h]
      · simp [h1, h2]
  exact (fnD_ok (n := 1) rfl e).trans sweep_bl
theorem ty_int {st : Sto} {v : D} (h : typeName st v = some "int") : ∃ i, v = .int i := by
  cases v with
  | int i => exact ⟨i, rfl⟩
  | non => exact absurd h (by simp [Ev.typeName])
  | bl _ => exact absurd h (by simp [Ev.typeName])
  | str _ => exact absurd h (by simp [Ev.typeName])
  | tup _ => exact absurd h (by simp [Ev.typeName])
  | row _ => exact absurd h (by simp [Ev.typeName])
  | _ =>
    simp only [Ev.typeName] at h
    split at h <;> simp at h
theorem ty_tup {st : Sto} {v : D} (hr : ∀ xs, v ≠ .row xs) (h : typeName st v = some "tuple") : ∃ xs, v = .tup xs := by
  cases v with
  | tup i => exact ⟨i, rfl⟩
  | non => exact absurd h (by simp [Ev.typeName])
  | bl _ => exact absurd h (by simp [Ev.typeName])
  | str _ => exact absurd h (by simp [Ev.typeName])
  | int _ => exact absurd h (by simp [Ev.typeName])
  | row _ => exact absurd rfl (hr _)
  | _ =>
    simp only [Ev.typeName] at h
    split at h <;> simp at h
/-- a whole number a .. b -/
def inR (v : D) (a b : Int) : Bool := match v with
  | .int i => decide (a ≤ i) && decide (i ≤ b)
  | _ => false
theorem f_is_within {v : D} {st : Sto} {T : String} {a b : Int} (h : typeName st v = some T) (hk : v.kept = true) : F_is_within [v, .int a, .int b] st = .ok (.bl (inR v a b)) st := by
  have e : B_is_within ([v, .int a, .int b].map some ++ List.replicate 0 none) st = .ok (.rt (.bl (inR v a b))) st := by
    simp only [B_is_within, List.map_cons, List.map_nil, List.replicate_zero, List.append_nil, retS_app, andE_app, callE_app, allS_cons, allS_nil, varE_0, varE_1, varE_2, bnd_ok, bnd_app, settle_kept hk, ret_app, List.length_cons, List.length_nil, Nat.zero_add, if_true, f_is_whole h, truD_bl, chainE_app]
    by_cases h1 : T = "int"
    · subst h1
      obtain ⟨i, rfl⟩ := ty_int h
      simp only [beq_self_eq_true, if_true, cmpD, leD, bnd_ok, truD_bl, inR, bnd_app, ret_app]
      by_cases h2 : a ≤ i
      · simp [h2, leD]
      · simp [h2, leD]
    · have hv : inR v a b = false := by
        unfold inR
        split
        · exact absurd (Option.some.inj h).symm h1
        · rfl
      have : (T == "int") = false := by simp [h1]
      rw [this, hv]
      rfl
  exact (fnD_ok (n := 3) rfl e).trans sweep_bl
def pairB (v : D) : Bool := match v with
  | .tup xs => decide (xs.length = 2)
  | _ => false
theorem f_is_pair {v : D} {st : Sto} {T : String} (hr : ∀ xs, v ≠ .row xs) (h : typeName st v = some T) : F_is_pair [v] st = .ok (.bl (pairB v)) st := by
  have e : B_is_pair ([v].map some ++ List.replicate 0 none) st = .ok (.rt (.bl (pairB v))) st := by
    simp only [B_is_pair, List.map_cons, List.map_nil, List.replicate_zero, List.append_nil, retS_app, andE_app, un1_app, bin2_app, varE_0, bnd_ok, isInst_eq h, bnd_app, truD_bl, conE_app]
    by_cases h1 : T = "tuple"
    · subst h1
      obtain ⟨xs, rfl⟩ := ty_tup hr h
      have : decide (((xs.length : Nat) : Int) = 2) = decide (xs.length = 2) := by
        by_cases q : xs.length = 2
        · simp [q]
        · have : ¬ ((xs.length : Nat) : Int) = 2 := by omega
          simp [q, this]
      simp [lenD, cmpD, eqD_int, this, pairB]
    · have hv : pairB v = false := by
        cases v with
        | tup xs => exact absurd (Option.some.inj h).symm h1
        | _ => rfl
      have : (T == "tuple" || T == "bool" && "tuple" == "int") = false := by simp [h1]
      rw [hv, this]
      rfl
  exact (fnD_ok (n := 1) rfl e).trans sweep_bl
/-! ### lists of whole numbers -/
theorem setT_at {i : Nat} {d : D} {fr : Fr} {st : Sto} (h : d.kept = true) : setT i d fr st = .ok (fr.set i (some d)) st := by
  show (settle d st).bnd _ = _
  rw [settle_kept h]
  rfl
/-- every item's type is known, each may be kept -/
def Tys (st : Sto) (xs : List D) : Prop := ∀ x ∈ xs, (∃ T, Ev.typeName st x = some T) ∧ x.kept = true
theorem bools_map (p : D → Bool) : ∀ xs : List D, bools (xs.map fun x => D.bl (p x)) = some (xs.map p)
  | [] => rfl
  | x :: xs => by
    show (bools (xs.map fun x => D.bl (p x))).map (p x :: ·) = _
    rw [bools_map p xs]
    rfl
theorem allD_map {st : Sto} (p : D → Bool) (xs : List D) : allD (.tmp (.lst (xs.map fun x => D.bl (p x)))) st = .ok (.bl (xs.all p)) st := by
  show (match bools (xs.map fun x => D.bl (p x)) with
    | some bs => R.ok (D.bl (bs.all id)) st
    | none => R.stuck) = _
  rw [bools_map]
  simp [List.all_map, Function.comp_def]
/-- the key of a whole number -/
def nk (d : D) : NestedKey := match d with
  | .int i => .num i
  | _ => .none
def cnt (xs : List D) : Nat := (dcOf nk (fun _ => D.bl true) xs).length
def listB (v : D) (m : Int) : Bool := match v with
  | .tup xs => xs.all (fun x => inR x 0 (m - 1)) && decide (cnt xs = xs.length)
  | _ => false
theorem f_is_list_of {v : D} {st : Sto} {T : String} {m : Int} (hr : ∀ xs, v ≠ .row xs) (h : Ev.typeName st v = some T) (hx : ∀ xs, v = .tup xs → Tys st xs) :
    F_is_list_of [v, .int m] st = .ok (.bl (listB v m)) st := by
  by_cases h1 : T = "tuple"
  · subst h1
    obtain ⟨xs, rfl⟩ := ty_tup hr h
    have hT := hx xs rfl
    have lc : lcE [2] (seqI (varE 0)) (setT 2) [] (callE 3 F_is_within [(varE 2), (conE (.int 0)), (bin2 subD (varE 1) (conE (.int 1)))]) [some (.tup xs), some (.int m), none] st = .ok (.tmp (.lst (xs.map fun x => D.bl (inR x 0 (m - 1))))) st := by
      refine lcE_map (ns := []) (st1 := st) (fr1 := fun x => [some (.tup xs), some (.int m), some x]) rfl (fun x hm => setT_at (hT x hm).2) (fun x hm => ?_)
      obtain ⟨⟨U, hU⟩, hk⟩ := hT x hm
      refine ⟨?_, rfl⟩
      simp [settle_kept hk, subD, f_is_within hU hk]
    have e : B_is_list_of ([.tup xs, .int m].map some ++ List.replicate 1 none) st = .ok (.rt (.bl (xs.all (fun x => inR x 0 (m - 1)) && decide (cnt xs = xs.length)))) st := by
      have f0 : ([D.tup xs, .int m].map some ++ List.replicate 1 none) = [some (.tup xs), some (.int m), none] := rfl
      rw [f0]
      have h2 : isInst "tuple" (.tup xs) st = .ok (.bl true) st := rfl
      cases ha : xs.all fun x => inR x 0 (m - 1) with
      | false => simp [B_is_list_of, h2, lc, allD_map, ha]
      | true =>
        have hInt : ∀ x ∈ xs, ∃ i, x = .int i := fun x hm => by
          have q := List.all_eq_true.mp ha x hm
          cases x with
          | int i => exact ⟨i, rfl⟩
          | _ => exact absurd q (by simp [inR])
        have dc : dcE [2] (seqI (varE 0)) (setT 2) [] (varE 2) (conE (.bl true)) [some (.tup xs), some (.int m), none] st = .ok (.tmp (.dct (dcOf nk (fun _ => D.bl true) xs))) st := by
          refine dcE_map (ns := []) (st1 := st) (fr1 := fun x => [some (.tup xs), some (.int m), some x]) (ky := id) rfl (fun x hm => setT_at (hT x hm).2) (fun x hm => ?_) (fun x hm => ⟨rfl, rfl⟩)
          obtain ⟨i, rfl⟩ := hInt x hm
          exact ⟨rfl, rfl⟩
        have q : (((dcOf nk (fun _ => D.bl true) xs).length : Nat) : Int) = ((xs.length : Nat) : Int) ↔ cnt xs = xs.length := by unfold cnt; omega
        simp [B_is_list_of, h2, lc, allD_map, ha, dc, lenD, cellAt, cmpD, eqD_int]
        exact q
    exact (fnD_ok (n := 2) (m := 1) rfl e).trans sweep_bl
  · have hv : listB v m = false := by
      cases v with
      | tup xs => exact absurd (Option.some.inj h).symm h1
      | _ => rfl
    rw [hv]
    have e : B_is_list_of ([v, .int m].map some ++ List.replicate 1 none) st = .ok (.rt (.bl false)) st := by
      simp [B_is_list_of, isInst_eq h, h1]
    exact (fnD_ok (n := 2) (m := 1) rfl e).trans sweep_bl
end Law
set_option Elab.async false
set_option linter.all false
set_option maxRecDepth 100000
set_option maxHeartbeats 4000000
namespace Law
open PySem Ev
/-- a value whose type is known, and so its items', n deep -/
def Vd : Nat → Sto → D → Prop
  | 0, st, v => ((∃ T, Ev.typeName st v = some T) ∧ v.kept = true ∧ ∀ xs, v ≠ .row xs) ∧ ∃ p, toPy st 64 v = some p ∧ p.canLay0 = true ∧ p.depth ≤ 63
  | n + 1, st, v => ((∃ T, Ev.typeName st v = some T) ∧ v.kept = true ∧ ∀ xs, v ≠ .row xs) ∧ ∀ xs, v = .tup xs → ∀ x ∈ xs, Vd n st x
theorem Vd.here {n : Nat} {st : Sto} {v : D} (h : Vd n st v) : (∃ T, Ev.typeName st v = some T) ∧ v.kept = true ∧ ∀ xs, v ≠ .row xs := by
  cases n with
  | zero => exact h.1
  | succ n => exact h.1
theorem Vd.item {n : Nat} {st : Sto} {xs : List D} (h : Vd (n + 1) st (.tup xs)) : ∀ x ∈ xs, Vd n st x := h.2 xs rfl
theorem Vd.tys {n : Nat} {st : Sto} {xs : List D} (h : Vd (n + 1) st (.tup xs)) : Tys st xs := fun x m => ⟨(h.item x m).here.1, (h.item x m).here.2.1⟩
theorem list_of {v : D} {st : Sto} {m : Int} (h : Vd 1 st v) : F_is_list_of [v, .int m] st = .ok (.bl (listB v m)) st := by
  obtain ⟨⟨T, hT⟩, hk, hr⟩ := h.here
  exact f_is_list_of hr hT fun xs e => by subst e; exact h.tys
def sideB (v : D) (m : Int) : Bool := match v with
  | .tup xs => (decide (1 ≤ xs.length) && decide (xs.length ≤ 40)) && xs.all fun x => listB x m
  | _ => false
theorem f_is_side {v : D} {st : Sto} {m : Int} (h : Vd 2 st v) : F_is_side_of_lists [v, .int m] st = .ok (.bl (sideB v m)) st := by
  obtain ⟨⟨T, hT⟩, hk, hr⟩ := h.here
  by_cases h1 : T = "tuple"
  · subst h1
    obtain ⟨xs, rfl⟩ := ty_tup hr hT
    have h2 : isInst "tuple" (.tup xs) st = .ok (.bl true) st := rfl
    have lc : lcE [2] (seqI (varE 0)) (setT 2) [] (callE 2 F_is_list_of [(varE 2), (varE 1)]) [some (.tup xs), some (.int m), none] st = .ok (.tmp (.lst (xs.map fun x => D.bl (listB x m)))) st := by
      refine lcE_map (ns := []) (st1 := st) (fr1 := fun x => [some (.tup xs), some (.int m), some x]) rfl (fun x hm => setT_at (h.item x hm).here.2.1) (fun x hm => ?_)
      refine ⟨?_, rfl⟩
      simp [settle_kept (h.item x hm).here.2.1, list_of (h.item x hm)]
    have e : B_is_side_of_lists ([.tup xs, .int m].map some ++ List.replicate 1 none) st = .ok (.rt (.bl (sideB (.tup xs) m))) st := by
      have f0 : ([D.tup xs, .int m].map some ++ List.replicate 1 none) = [some (.tup xs), some (.int m), none] := rfl
      rw [f0]
      by_cases q1 : 1 ≤ xs.length
      · by_cases q2 : xs.length ≤ 40
        · have e1 : (1 : Int) ≤ ((xs.length : Nat) : Int) := by omega
          have e2 : ((xs.length : Nat) : Int) ≤ 40 := by omega
          simp [B_is_side_of_lists, h2, lc, allD_map, sideB, q1, q2, lenD, cmpD, leD, e1, e2]
        · have e1 : (1 : Int) ≤ ((xs.length : Nat) : Int) := by omega
          have e2 : ¬ ((xs.length : Nat) : Int) ≤ 40 := by omega
          simp [B_is_side_of_lists, h2, sideB, q1, q2, lenD, cmpD, leD, e1, e2]
      · have e1 : ¬ (1 : Int) ≤ ((xs.length : Nat) : Int) := by omega
        simp [B_is_side_of_lists, h2, sideB, q1, lenD, cmpD, leD, e1]
    exact (fnD_ok (n := 2) (m := 1) rfl e).trans sweep_bl
  · have hv : sideB v m = false := by
      cases v with
      | tup xs => exact absurd (Option.some.inj hT).symm h1
      | _ => rfl
    rw [hv]
    have e : B_is_side_of_lists ([v, .int m].map some ++ List.replicate 1 none) st = .ok (.rt (.bl false)) st := by
      simp [B_is_side_of_lists, isInst_eq hT, h1]
    exact (fnD_ok (n := 2) (m := 1) rfl e).trans sweep_bl
/-- a pair of tuples that has the form -/
def sides (v : D) : Option (List D × List D) := match v with
  | .tup [.tup ls, .tup rs] => some (ls, rs)
  | _ => none
def formB (v : D) : Bool := match sides v with
  | some (ls, rs) => sideB (.tup ls) rs.length && sideB (.tup rs) ls.length
  | none => false
theorem tup_or {st : Sto} {n : Nat} {v : D} (h : Vd n st v) : (∃ xs, v = .tup xs) ∨ ((∀ xs, v ≠ .tup xs) ∧ isInst "tuple" v st = .ok (.bl false) st) := by
  obtain ⟨⟨T, hT⟩, hk, hr⟩ := h.here
  by_cases h1 : T = "tuple"
  · subst h1; exact .inl (ty_tup hr hT)
  · refine .inr ⟨fun xs e => ?_, ?_⟩
    · subst e; exact h1 (Option.some.inj hT).symm
    · rw [isInst_eq hT]
      simp [h1]
theorem f_has_form {v : D} {st : Sto} (h : Vd 3 st v) : F_has_form [v] st = .ok (.bl (formB v)) st := by
  obtain ⟨⟨T, hT⟩, hk, hr⟩ := h.here
  have hp := f_is_pair hr hT
  suffices e : B_has_form ([v].map some ++ List.replicate 0 none) st = .ok (.rt (.bl (formB v))) st from (fnD_ok (n := 1) (m := 0) rfl e).trans sweep_bl
  have f0 : ([v].map some ++ List.replicate 0 none) = [some v] := rfl
  rw [f0]
  rcases tup_or h with ⟨xs, rfl⟩ | ⟨hn, _⟩
  · by_cases h2 : xs.length = 2
    · match xs, h2 with
      | [a, b], _ =>
        have ha := h.item a (by simp)
        have hb := h.item b (by simp)
        have i0 : ixD (.tup [a, b]) (.int 0) st = .ok a st := rfl
        have i1 : ixD (.tup [a, b]) (.int 1) st = .ok b st := rfl
        rcases tup_or ha with ⟨ls, rfl⟩ | ⟨na, ea⟩
        · have ea : isInst "tuple" (.tup ls) st = .ok (.bl true) st := rfl
          rcases tup_or hb with ⟨rs, rfl⟩ | ⟨nb, eb⟩
          · have eb : isInst "tuple" (.tup rs) st = .ok (.bl true) st := rfl
            have s1 := f_is_side (m := rs.length) ha
            have s2 := f_is_side (m := ls.length) hb
            have l1 : ∀ zs : List D, lenD (.tup zs) st = .ok (.int zs.length) st := fun _ => rfl
            cases q : sideB (.tup ls) rs.length with
            | true => simp [B_has_form, hp, pairB, i0, i1, ea, eb, s1, s2, l1, formB, sides, q]
            | false => simp [B_has_form, hp, pairB, i0, i1, ea, eb, s1, s2, l1, formB, sides, q]
          · have : sides (.tup [.tup ls, b]) = none := by
              cases b <;> first | rfl | exact absurd rfl (nb _)
            simp [B_has_form, hp, pairB, i0, i1, ea, eb, formB, this]
        · have : sides (.tup [a, b]) = none := by
            cases a <;> first | rfl | exact absurd rfl (na _)
          simp [B_has_form, hp, pairB, i0, i1, ea, formB, this]
    · have : sides (.tup xs) = none := by
        unfold sides
        split
        · rename_i e
          cases e
          exact absurd rfl h2
        · rfl
      have q : pairB (.tup xs) = false := by simp [pairB, h2]
      rw [q] at hp
      simp [B_has_form, hp, formB, this]
  · have : sides v = none := by
      cases v <;> first | rfl | exact absurd rfl (hn _)
    have q : pairB v = false := by
      cases v <;> first | rfl | exact absurd rfl (hn _)
    rw [q] at hp
    simp [B_has_form, hp, formB, this, settle_kept hk]
end Law
set_option Elab.async false
set_option linter.all false
set_option maxRecDepth 100000
set_option maxHeartbeats 4000000
namespace Law
open PySem Ev
/-- p stands in the row -/
def isP (p : Int) (y : D) : Bool := match y with
  | .int j => decide (j = p)
  | _ => false
def hasP (p : Int) (row : D) : Bool := match row with
  | .tup ys => ys.any (isP p)
  | _ => false
theorem eqPy_int {i j : Int} {st : Sto} : eqPy st (.int i) (.int j) = some (decide (i = j)) := by
  unfold eqPy toPy
  simp [SeqAt.shaped, PyData.eqv, PyData.canLay0, PyData.depth]
  by_cases h : i = j <;> simp [h]
theorem anyPy_ints {p : Int} {st : Sto} : ∀ ys : List D, (∀ y ∈ ys, ∃ j, y = .int j) → anyPy st (.int p) ys = some (ys.any (isP p))
  | [], _ => rfl
  | y :: ys, h => by
    obtain ⟨j, rfl⟩ := h y List.mem_cons_self
    unfold anyPy
    rw [eqPy_int, anyPy_ints ys fun z m => h z (List.mem_cons_of_mem _ m)]
    rfl
theorem notIn_ints {p : Int} {st : Sto} {ys : List D} (h : ∀ y ∈ ys, ∃ j, y = .int j) : notInD (.int p) (.tup ys) st = .ok (.bl (!hasP p (.tup ys))) st := by
  unfold notInD inPy
  show (match anyPy st (.int p) ys with
    | some b => R.ok (D.bl (!b)) st
    | none => R.stuck) = _
  rw [anyPy_ints ys h]
  rfl
/-- the row that an entry tells -/
def rowAt (others : List D) (x : D) : D := match x with
  | .int o => others.getD o.toNat .non
  | _ => .non
def scanRow (side : Str) (p : Int) (others : List D) : List D → Option D
  | [] => none
  | x :: xs => if hasP p (rowAt others x) then scanRow side p others xs else some (.tup [.str side, .int p, x])
def scanRows (side : Str) (others : List D) : Int → List D → Option D
  | _, [] => none
  | p, row :: rows => match row with
    | .tup ys => match scanRow side p others ys with
      | some d => some d
      | none => scanRows side others (p + 1) rows
    | _ => none
/-- rows of whole numbers below n -/
def Rows (n : Nat) (rows : List D) : Prop := ∀ r ∈ rows, ∃ ys, r = .tup ys ∧ ∀ y ∈ ys, ∃ o : Nat, y = .int o ∧ o < n
theorem ix_nat {xs : List D} {o : Nat} {st : Sto} (h : o < xs.length) : ixD (.tup xs) (.int o) st = .ok (xs.getD o .non) st := by
  show (match L2.atI xs o with
    | some d => R.ok d st
    | none => R.stuck) = _
  have : L2.atI xs ((o : Nat) : Int) = some (xs.getD o .non) := by
    unfold L2.atI
    have e : L2.ixN xs.length ((o : Nat) : Int) = some o := by
      unfold L2.ixN
      rw [if_pos (by omega)]
      simp [h]
    simp [e, h]
  rw [this]
theorem rowsAt {n : Nat} {rows : List D} (h : Rows n rows) {o : Nat} (ho : o < rows.length) : ∃ zs, rows.getD o .non = .tup zs ∧ ∀ y ∈ zs, ∃ j, y = .int j := by
  have hm : rows.getD o .non ∈ rows := by
    rw [List.getD_eq_getElem?_getD, List.getElem?_eq_getElem ho]
    exact List.getElem_mem ho
  obtain ⟨ys, e, hy⟩ := h _ hm
  exact ⟨ys, e, fun y m => let ⟨o, e, _⟩ := hy y m; ⟨o, e⟩⟩
abbrev inner : S := ifS (testE (bin2 (cmpD .NotIn) (varE 4) (bin2 ixD (varE 3) (varE 6)))) (retS (tupE [(varE 1), (varE 4), (varE 6)])) nopS
theorem fault_inner {v : D} {side : Str} {ls others : List D} {p : Int} {row : D} {st : Sto} {m : Nat} (ho : Rows m others) : ∀ (ys : List D) (o6 : Option D), (∀ y ∈ ys, ∃ o : Nat, y = .int o ∧ o < others.length) →
    ∃ f, loop (setT 6) inner ys [some v, some (.str side), some (.tup ls), some (.tup others), some (.int p), some row, o6] st = .ok f st ∧
      match scanRow side p others ys with
      | some d => f = .rt d
      | none => ∃ o6', f = .nx [some v, some (.str side), some (.tup ls), some (.tup others), some (.int p), some row, o6']
  | [], o6, _ => ⟨_, rfl, o6, rfl⟩
  | y :: ys, o6, h => by
    obtain ⟨o, rfl, hlt⟩ := h y List.mem_cons_self
    obtain ⟨zs, ez, hz⟩ := rowsAt ho hlt
    have ix : ixD (.tup others) (.int o) st = .ok (.tup zs) st := by rw [ix_nat hlt, ez]
    have ra : rowAt others (.int o) = .tup zs := by
      show others.getD ((o : Nat) : Int).toNat .non = _
      rw [Int.toNat_natCast, ez]
    have st1 : setT 6 (.int o) [some v, some (.str side), some (.tup ls), some (.tup others), some (.int p), some row, o6] st = .ok [some v, some (.str side), some (.tup ls), some (.tup others), some (.int p), some row, some (.int o)] st := setT_at rfl
    have ni := notIn_ints (p := p) (st := st) hz
    unfold loop scanRow
    rw [bnd_app, st1, bnd_ok, bnd_app, ra]
    cases hp : hasP p (.tup zs) with
    | true =>
      rw [hp] at ni
      have e : inner [some v, some (.str side), some (.tup ls), some (.tup others), some (.int p), some row, some (.int o)] st = .ok (.nx [some v, some (.str side), some (.tup ls), some (.tup others), some (.int p), some row, some (.int o)]) st := by
        simp [inner, ix, cmpD, ni]
      rw [e, bnd_ok, if_pos rfl]
      exact fault_inner ho ys (some (.int o)) fun z m => h z (List.mem_cons_of_mem _ m)
    | false =>
      rw [hp] at ni
      have e : inner [some v, some (.str side), some (.tup ls), some (.tup others), some (.int p), some row, some (.int o)] st = .ok (.rt (.tup [.str side, .int p, .int o])) st := by
        simp [inner, ix, cmpD, ni, tupE]
      rw [e, bnd_ok, if_neg Bool.false_ne_true]
      exact ⟨_, rfl, rfl⟩
theorem scanRows_cons {side : Str} {others ys rows : List D} {p : Int} : scanRows side others p (.tup ys :: rows) = match scanRow side p others ys with
  | some d => some d
  | none => scanRows side others (p + 1) rows := rfl
abbrev mid : S := forS (seqI (varE 5)) (setT 6) inner
abbrev fr7 (v : D) (side : Str) (ls others : List D) (a b c : Option D) : Fr := [some v, some (.str side), some (.tup ls), some (.tup others), a, b, c]
theorem tup2_at {v : D} {side : Str} {ls others : List D} {a b c : Option D} {i x : D} {st : Sto} (hi : i.kept = true) (hx : x.kept = true) : tupT [setT 4, setT 5] (.row [i, x]) (fr7 v side ls others a b c) st = .ok (fr7 v side ls others (some i) (some x) c) st := by
  show ((setT 4 i (fr7 v side ls others a b c) st).bnd fun fr => bnd (setT 5 x fr) fun fr => ret fr) = _
  rw [setT_at hi, bnd_ok, bnd_app, setT_at hx, bnd_ok]
  rfl
theorem fault_mid {v : D} {side : Str} {ls others : List D} {st : Sto} {m : Nat} (ho : Rows m others) : ∀ (rows : List D) (n : Nat) (a b c : Option D), Rows others.length rows →
    ∃ f, loop (tupT [setT 4, setT 5]) mid (numb n rows) (fr7 v side ls others a b c) st = .ok f st ∧
      match scanRows side others n rows with
      | some d => f = .rt d
      | none => ∃ a' b' c', f = .nx (fr7 v side ls others a' b' c')
  | [], n, a, b, c, _ => ⟨_, rfl, a, b, c, rfl⟩
  | row :: rows, n, a, b, c, h => by
    obtain ⟨ys, rfl, hy⟩ := h row List.mem_cons_self
    have ih := fun a b c => fault_mid (v := v) (side := side) (ls := ls) (st := st) ho rows (n + 1) a b c fun r m => h r (List.mem_cons_of_mem _ m)
    obtain ⟨f1, e1, p1⟩ := fault_inner (v := v) (side := side) (ls := ls) (others := others) (p := (n : Int)) (row := .tup ys) (st := st) ho ys c hy
    have e2 : mid (fr7 v side ls others (some (.int n)) (some (.tup ys)) c) st = .ok f1 st := by
      have := forS_ok (it := seqI (varE 5)) (q := setT 6) (body := inner) (fr := fr7 v side ls others (some (.int n)) (some (.tup ys)) c) (st := st) (items := ys) (ns := []) rfl e1
      exact this
    unfold numb loop
    rw [scanRows_cons, bnd_app, tup2_at rfl rfl, bnd_ok, bnd_app, e2, bnd_ok]
    cases q : scanRow side (n : Int) others ys with
    | some d =>
      rw [q] at p1
      subst p1
      exact ⟨_, rfl, rfl⟩
    | none =>
      rw [q] at p1
      obtain ⟨c', rfl⟩ := p1
      obtain ⟨f, e3, p3⟩ := ih (some (.int n)) (some (.tup ys)) c'
      refine ⟨f, e3, ?_⟩
      have : ((n + 1 : Nat) : Int) = (n : Int) + 1 := by omega
      rw [this] at p3
      exact p3
end Law
set_option Elab.async false
set_option linter.all false
set_option maxRecDepth 100000
set_option maxHeartbeats 4000000
namespace Law
open PySem Ev
def faultD (v : D) : D := if formB v then (match sides v with
  | some (ls, rs) => match scanRows "left" rs 0 ls with
    | some d => d
    | none => match scanRows "right" ls 0 rs with
      | some d => d
      | none => .non
  | none => .non) else .tup [.str "form"]
theorem inR_nat {x : D} {m : Nat} (h : inR x 0 ((m : Int) - 1) = true) : ∃ o : Nat, x = .int o ∧ o < m := by
  unfold inR at h
  split at h
  · rename_i i
    simp only [Bool.and_eq_true, decide_eq_true_eq] at h
    exact ⟨i.toNat, by rw [Int.toNat_of_nonneg h.1], by omega⟩
  · cases h
theorem rows_of {xs : List D} {m : Nat} (h : sideB (.tup xs) m = true) : Rows m xs := by
  intro r hr
  simp only [sideB, Bool.and_eq_true, List.all_eq_true] at h
  have q := h.2 r hr
  unfold listB at q
  split at q
  · rename_i ys
    simp only [Bool.and_eq_true, List.all_eq_true] at q
    exact ⟨ys, rfl, fun y hy => inR_nat (q.1 y hy)⟩
  · cases q
theorem scanRow_low {side : Str} {p : Int} {others : List D} {n : Nat} {d : D} : ∀ {ys : List D}, (∀ y ∈ ys, ∃ o : Nat, y = .int o ∧ o < others.length) → scanRow side p others ys = some d → d.lower n = true
  | [], _, h => by cases h
  | y :: ys, hy, h => by
    unfold scanRow at h
    split at h
    · exact scanRow_low (fun z m => hy z (List.mem_cons_of_mem _ m)) h
    · cases h
      obtain ⟨o, rfl, _⟩ := hy y List.mem_cons_self
      rfl
theorem scanRows_low {side : Str} {others : List D} {n : Nat} {d : D} : ∀ {rows : List D} {p : Int}, Rows others.length rows → scanRows side others p rows = some d → d.lower n = true
  | [], _, _, h => by cases h
  | row :: rows, p, hr, h => by
    obtain ⟨ys, rfl, hy⟩ := hr row List.mem_cons_self
    rw [scanRows_cons] at h
    cases q : scanRow side p others ys with
    | some d' => rw [q] at h; cases h; exact scanRow_low hy q
    | none => rw [q] at h; exact scanRows_low (fun r m => hr r (List.mem_cons_of_mem _ m)) h
theorem form_sides {v : D} (h : formB v = true) : ∃ ls rs, v = .tup [.tup ls, .tup rs] ∧ Rows rs.length ls ∧ Rows ls.length rs := by
  unfold formB at h
  split at h
  · rename_i ls rs e
    simp only [Bool.and_eq_true] at h
    refine ⟨ls, rs, ?_, rows_of h.1, rows_of h.2⟩
    unfold sides at e
    split at e
    · cases e; rfl
    · cases e
  · cases h
abbrev outer : S := forS (enumI (varE 2)) (tupT [(setT 4), (setT 5)]) mid
theorem tup3_at {v : D} {side : Str} {ls rs : List D} {a1 a2 a3 a b c : Option D} {st : Sto} : tupT [setT 1, setT 2, setT 3] (.tup [.str side, .tup ls, .tup rs]) [some v, a1, a2, a3, a, b, c] st = .ok (fr7 v side ls rs a b c) st := rfl
theorem outer_at {v : D} {side : Str} {ls rs : List D} {a b c : Option D} {st : Sto} (h1 : Rows rs.length ls) (h2 : Rows ls.length rs) : ∃ f, outer (fr7 v side ls rs a b c) st = .ok f st ∧ match scanRows side rs 0 ls with
    | some d => f = .rt d
    | none => ∃ a' b' c', f = .nx (fr7 v side ls rs a' b' c') := by
  obtain ⟨f, e, p⟩ := fault_mid (v := v) (side := side) (ls := ls) (st := st) h2 ls 0 a b c h1
  exact ⟨f, forS_ok (it := enumI (varE 2)) (q := tupT [setT 4, setT 5]) (body := mid) (fr := fr7 v side ls rs a b c) (st := st) (items := numb 0 ls) (ns := []) rfl e, p⟩
theorem f_fault_in {v : D} {st : Sto} (h : Vd 3 st v) : F_fault_in [v] st = .ok (faultD v) st := by
  have hk := h.here.2.1
  have hf := f_has_form h
  have low : (faultD v).lower st.length = true := by
    unfold faultD
    split
    · rename_i q
      obtain ⟨ls, rs, rfl, h1, h2⟩ := form_sides q
      show (match scanRows "left" rs 0 ls with
        | some d => d
        | none => match scanRows "right" ls 0 rs with
          | some d => d
          | none => D.non : D).lower st.length = true
      split
      · rename_i e; exact scanRows_low h1 e
      · split
        · rename_i e; exact scanRows_low h2 e
        · rfl
    · rfl
  suffices e : B_fault_in ([v].map some ++ List.replicate 6 none) st = .ok (.rt (faultD v)) st from (fnD_ok (n := 1) (m := 6) rfl e).trans (sweep_same low)
  have f0 : ([v].map some ++ List.replicate 6 none) = [some v, none, none, none, none, none, none] := rfl
  rw [f0]
  cases q : formB v with
  | false =>
    rw [q] at hf
    have e1 : faultD v = .tup [.str "form"] := by unfold faultD; rw [q]; rfl
    rw [e1]
    simp [B_fault_in, settle_kept hk, hf, tupE]
  | true =>
    rw [q] at hf
    obtain ⟨ls, rs, rfl, h1, h2⟩ := form_sides q
    have e1 : faultD (.tup [.tup ls, .tup rs]) = (match scanRows "left" rs 0 ls with
        | some d => d
        | none => match scanRows "right" ls 0 rs with
          | some d => d
          | none => D.non) := by
      unfold faultD
      rw [q]
      rfl
    obtain ⟨f1, o1, p1⟩ := outer_at (v := .tup [.tup ls, .tup rs]) (side := "left") (a := none) (b := none) (c := none) (st := st) h1 h2
    have items : (seqI (tupE [(tupE [(conE (.str "left")), (bin2 ixD (varE 0) (conE (.int 0))), (bin2 ixD (varE 0) (conE (.int 1)))]), (tupE [(conE (.str "right")), (bin2 ixD (varE 0) (conE (.int 1))), (bin2 ixD (varE 0) (conE (.int 0)))])])) [some (.tup [.tup ls, .tup rs]), none, none, none, none, none, none] st = .ok ⟨[.tup [.str "left", .tup ls, .tup rs], .tup [.str "right", .tup rs, .tup ls]], []⟩ st := rfl
    have lp : ∃ f, loop (tupT [setT 1, setT 2, setT 3]) outer [.tup [.str "left", .tup ls, .tup rs], .tup [.str "right", .tup rs, .tup ls]] [some (.tup [.tup ls, .tup rs]), none, none, none, none, none, none] st = .ok f st ∧ (f = .rt (faultD (.tup [.tup ls, .tup rs])) ∨ (∃ fr, f = .nx fr) ∧ faultD (.tup [.tup ls, .tup rs]) = .non) := by
      unfold loop
      rw [bnd_app, tup3_at, bnd_ok, bnd_app, o1, bnd_ok, e1]
      cases q1 : scanRows "left" rs 0 ls with
      | some d => rw [q1] at p1; subst p1; exact ⟨_, rfl, .inl rfl⟩
      | none =>
        rw [q1] at p1
        obtain ⟨a', b', c', rfl⟩ := p1
        obtain ⟨f2, o2, p2⟩ := outer_at (v := .tup [.tup ls, .tup rs]) (side := "right") (a := a') (b := b') (c := c') (st := st) h2 h1
        show ∃ f, loop (tupT [setT 1, setT 2, setT 3]) outer [.tup [.str "right", .tup rs, .tup ls]] (fr7 (.tup [.tup ls, .tup rs]) "left" ls rs a' b' c') st = .ok f st ∧ _
        unfold loop
        rw [bnd_app, tup3_at, bnd_ok, bnd_app, o2, bnd_ok]
        cases q2 : scanRows "right" ls 0 rs with
        | some d => rw [q2] at p2; subst p2; exact ⟨_, rfl, .inl rfl⟩
        | none =>
          rw [q2] at p2
          obtain ⟨a2, b2, c2, rfl⟩ := p2
          exact ⟨_, rfl, .inr ⟨⟨_, rfl⟩, rfl⟩⟩
    obtain ⟨f, ef, pf⟩ := lp
    have ff := forS_ok (it := seqI (tupE [(tupE [(conE (.str "left")), (bin2 ixD (varE 0) (conE (.int 0))), (bin2 ixD (varE 0) (conE (.int 1)))]), (tupE [(conE (.str "right")), (bin2 ixD (varE 0) (conE (.int 1))), (bin2 ixD (varE 0) (conE (.int 0)))])])) (q := tupT [setT 1, setT 2, setT 3]) (body := outer) items ef
    rw [unlocks_nil] at ff
    have hd : (ifS (notT (testE (callE 1 F_has_form [(varE 0)]))) (retS (tupE [(conE (.str "form"))])) nopS) [some (.tup [.tup ls, .tup rs]), none, none, none, none, none, none] st = .ok (.nx [some (.tup [.tup ls, .tup rs]), none, none, none, none, none, none]) st := by
      simp [hf]
    unfold B_fault_in
    rw [seqS_app, hd, bnd_ok]
    show (seqS (forS _ _ outer) (retS (conE .non)) _ st) = _
    rw [seqS_app, ff, bnd_ok]
    rcases pf with rfl | ⟨⟨fr, rfl⟩, e⟩
    · rfl
    · rw [e]; rfl
end Law
set_option Elab.async false
set_option linter.all false
set_option maxRecDepth 100000
set_option maxHeartbeats 4000000
namespace Law
open PySem Ev
theorem f_is_wishes_in {v : D} {st : Sto} (h : Vd 3 st v) : F_is_wishes_in [v] st = .ok (.bl (isNonB (faultD v))) st := by
  have e : B_is_wishes_in ([v].map some ++ List.replicate 0 none) st = .ok (.rt (.bl (isNonB (faultD v)))) st := by
    simp [B_is_wishes_in, settle_kept h.here.2.1, f_fault_in h, cmpD, isD, isND]
  exact (fnD_ok (n := 1) (m := 0) rfl e).trans sweep_bl
theorem f_is_wishes {v : D} {st : Sto} (h : Vd 3 st v) : F_is_wishes [v] st = .ok (.bl (isNonB (faultD v))) st := by
  have e : B_is_wishes ([v].map some ++ List.replicate 0 none) st = .ok (.rt (.bl (isNonB (faultD v)))) st := by
    simp [B_is_wishes, settle_kept h.here.2.1, f_is_wishes_in h]
  exact (fnD_ok (n := 1) (m := 0) rfl e).trans sweep_bl
theorem fault_low {v : D} {n : Nat} : (faultD v).lower n = true := by
  unfold faultD
  split
  · rename_i q
    obtain ⟨ls, rs, rfl, h1, h2⟩ := form_sides q
    show (match scanRows "left" rs 0 ls with
      | some d => d
      | none => match scanRows "right" ls 0 rs with
        | some d => d
        | none => D.non : D).lower n = true
    split
    · rename_i e; exact scanRows_low h1 e
    · split
      · rename_i e; exact scanRows_low h2 e
      · rfl
  · rfl
theorem f_fault_of {v : D} {st : Sto} (h : Vd 3 st v) : F_fault_of [v] st = .ok (faultD v) st := by
  have e : B_fault_of ([v].map some ++ List.replicate 0 none) st = .ok (.rt (faultD v)) st := by
    simp [B_fault_of, settle_kept h.here.2.1, f_fault_in h]
  exact (fnD_ok (n := 1) (m := 0) rfl e).trans (sweep_same fault_low)
/-! ### the law's own look -/
theorem plain_all {st : Sto} : ∀ L : List D, (∀ x ∈ L, ∃ p, toPy st 64 x = some p ∧ p.canLay0 = true ∧ p.depth ≤ 63) → ∃ ps, optAll (toPy st 64) L = some ps ∧ PyData.canLayAll0 ps = true ∧ PyData.depthAll ps ≤ 63 ∧ ps.length = L.length
  | [], _ => ⟨[], rfl, rfl, by simp [PyData.depthAll], rfl⟩
  | x :: xs, h => by
    obtain ⟨p, e1, e2, e3⟩ := h x List.mem_cons_self
    obtain ⟨ps, f1, f2, f3, f4⟩ := plain_all xs fun y m => h y (List.mem_cons_of_mem _ m)
    refine ⟨p :: ps, ?_, ?_, ?_, by simp [f4]⟩
    · unfold optAll
      rw [e1, f1]
    · simp [PyData.canLayAll0, e2, f2]
    · simp only [PyData.depthAll]
      omega
theorem ne_nil {st : Sto} {L : List D} (h : ∀ x ∈ L, ∃ p, toPy st 64 x = some p ∧ p.canLay0 = true ∧ p.depth ≤ 63) : neD (.tmp (.lst L)) (.tmp (.lst [])) st = .ok (.bl (!L.isEmpty)) st := by
  obtain ⟨ps, f1, f2, f3, f4⟩ := plain_all L h
  have e1 : toPy st 65 (.tmp (.lst L)) = some (.list ps) := by
    show (optAll (toPy st 64) L).map PyData.list = _
    rw [f1]
    rfl
  have e2 : toPy st 65 (.tmp (.lst [])) = some (.list []) := rfl
  have s1 : SeqAt.shaped (.list ps) = true := by
    have : PyData.depthAll ps + 1 ≤ 64 := by omega
    simp [SeqAt.shaped, PyData.canLay0, PyData.depth, f2, this]
  have s2 : SeqAt.shaped (.list []) = true := by
    simp [SeqAt.shaped, PyData.canLay0, PyData.canLayAll0, PyData.depth, PyData.depthAll]
  unfold neD eqStr eqPy
  rw [e1, e2]
  simp only [s1, s2, Bool.and_self, if_true]
  cases L with
  | nil =>
    have : ps = [] := List.length_eq_zero_iff.mp f4
    subst this
    rfl
  | cons x xs =>
    cases ps with
    | nil => cases f4
    | cons p ps => rfl
end Law
set_option Elab.async false
set_option linter.all false
set_option maxRecDepth 100000
set_option maxHeartbeats 4000000
namespace Law
open PySem Ev
theorem foldl_len (k : D → NestedKey) (g : D → D) : ∀ (xs : List D) (acc : List (NestedKey × D)), (xs.foldl (fun acc x => putD acc (k x) (g x)) acc).length ≤ acc.length + xs.length
  | [], acc => by simp
  | x :: xs, acc => by
    have h1 := foldl_len k g xs (putD acc (k x) (g x))
    have h2 := putD_len acc (k x) (g x)
    simp only [List.foldl_cons, List.length_cons]
    omega
theorem cnt_le (xs : List D) : cnt xs ≤ xs.length := by
  have := foldl_len nk (fun _ => D.bl true) xs []
  simpa [cnt, dcOf] using this
theorem pairs_int : ∀ ys : List D, (∀ y ∈ ys, ∃ j, y = .int j) → pairsD (ys.map fun x => D.tup [x, .bl true]) = some (ys.map fun x => (nk x, D.bl true))
  | [], _ => rfl
  | y :: ys, h => by
    obtain ⟨j, rfl⟩ := h y List.mem_cons_self
    unfold List.map pairsD
    rw [pairs_int ys fun z m => h z (List.mem_cons_of_mem _ m)]
    rfl
theorem merge_cnt (ys : List D) : (mergeD [] (ys.map fun x => (nk x, D.bl true))).length = cnt ys := by
  unfold mergeD cnt dcOf
  rw [List.foldl_map]
abbrev bad : Te := orT (notT (testE (un1 (isInst "int") (varE 3)))) (orT (testE (un1 (isInst "bool") (varE 3))) (notT (testE (chainE (cmpD .LtE) (cmpD .Lt) (conE (.int 0)) (varE 3) (varE 1)))))
theorem bad_at {v row y : D} {m : Int} {st : Sto} (h : Vd 0 st y) : bad [some v, some (.int m), some row, some y] st = .ok (!inR y 0 (m - 1)) st := by
  obtain ⟨⟨T, hT⟩, hk, hr⟩ := h.here
  by_cases h1 : T = "int"
  · subst h1
    obtain ⟨i, rfl⟩ := ty_int hT
    have a1 : isInst "int" (.int i) st = .ok (.bl true) st := rfl
    have a2 : isInst "bool" (.int i) st = .ok (.bl false) st := rfl
    by_cases q1 : 0 ≤ i
    · have q2 : decide (i < m) = decide (i ≤ m - 1) := decide_eq_decide.mpr ⟨fun _ => by omega, fun _ => by omega⟩
      simp [bad, a1, a2, cmpD, leD, ltD, inR, q1, q2]
    · simp [bad, a1, a2, cmpD, leD, ltD, inR, q1]
  · have hv : inR y 0 (m - 1) = false := by
      cases y with
      | int i => exact absurd (Option.some.inj hT).symm h1
      | _ => rfl
    by_cases h2 : T = "bool"
    · subst h2
      have a1 : isInst "int" y st = .ok (.bl true) st := by rw [isInst_eq hT]; rfl
      have a2 : isInst "bool" y st = .ok (.bl true) st := by rw [isInst_eq hT]; rfl
      simp [bad, a1, a2, hv]
    · have a1 : isInst "int" y st = .ok (.bl false) st := by rw [isInst_eq hT]; simp [h1, h2]
      simp [bad, a1, hv]
abbrev rowS : S := (seqS (ifS (notT (testE (un1 (isInst "tuple") (varE 2)))) (retS (conE (.bl false))) nopS)
    (seqS (ifS (testE (bin2 (cmpD .NotEq) (lcE [3] (seqI (varE 2)) (setT 3) [bad] (varE 3)) (lstE []))) (retS (conE (.bl false))) nopS)
    (ifS (testE (bin2 (cmpD .Lt) (un1 lenD (un1 dictD (lcE [3] (seqI (varE 2)) (setT 3) [] (tupE [(varE 3), (conE (.bl true))])))) (un1 lenD (varE 2)))) (retS (conE (.bl false))) nopS)))
theorem rowS_at {v x : D} {m : Int} {o3 : Option D} {st : Sto} (h : Vd 1 st x) : rowS [some v, some (.int m), some x, o3] st = .ok (if listB x m = true then .nx [some v, some (.int m), some x, o3] else .rt (.bl false)) st := by
  rcases tup_or h with ⟨ys, rfl⟩ | ⟨hn, e⟩
  · have a0 : isInst "tuple" (.tup ys) st = .ok (.bl true) st := rfl
    have lc : lcE [3] (seqI (varE 2)) (setT 3) [bad] (varE 3) [some v, some (.int m), some (.tup ys), o3] st = .ok (.tmp (.lst ((ys.filter fun y => !inR y 0 (m - 1)).map id))) st :=
      lcE_pure (ns := []) (st1 := st) (fr1 := fun y => [some v, some (.int m), some (.tup ys), some y]) rfl (fun y hm => setT_at (h.item y hm).here.2.1) (fun y hm => allT_one (bad_at (h.item y hm))) (fun y hm _ => ⟨rfl, (h.item y hm).here.2.1⟩)
    rw [List.map_id] at lc
    have ne := ne_nil (st := st) (L := ys.filter fun y => !inR y 0 (m - 1)) fun y hm => (h.item y (List.mem_filter.mp hm).1).2
    have l0 : lstE [] [some v, some (.int m), some (.tup ys), o3] st = .ok (.tmp (.lst [])) st := rfl
    cases ha : ys.all fun y => inR y 0 (m - 1) with
    | false =>
      have q : (ys.filter fun y => !inR y 0 (m - 1)).isEmpty = false := by
        cases z : ys.filter fun y => !inR y 0 (m - 1) with
        | nil =>
          have : ys.all (fun y => inR y 0 (m - 1)) = true := List.all_eq_true.mpr fun y hm => by
            have := List.filter_eq_nil_iff.mp z y hm
            simpa using this
          rw [ha] at this
          cases this
        | cons _ _ => rfl
      have lb : listB (.tup ys) m = false := by simp only [listB, ha, Bool.false_and]
      rw [q] at ne
      rw [lb]
      simp [rowS, a0, lc, l0, cmpD, ne]
    | true =>
      have q : ys.filter (fun y => !inR y 0 (m - 1)) = [] := List.filter_eq_nil_iff.mpr fun y hm => by
        have := List.all_eq_true.mp ha y hm
        simp [this]
      rw [q] at ne lc
      have hInt : ∀ y ∈ ys, ∃ j, y = .int j := fun y hm => by
        have q := List.all_eq_true.mp ha y hm
        cases y with
        | int i => exact ⟨i, rfl⟩
        | _ => exact absurd q (by simp [inR])
      have dc : lcE [3] (seqI (varE 2)) (setT 3) [] (tupE [(varE 3), (conE (.bl true))]) [some v, some (.int m), some (.tup ys), o3] st = .ok (.tmp (.lst (ys.map fun x => D.tup [x, .bl true]))) st := by
        refine lcE_map (ns := []) (st1 := st) (fr1 := fun y => [some v, some (.int m), some (.tup ys), some y]) rfl (fun y hm => setT_at (h.item y hm).here.2.1) (fun y hm => ⟨?_, rfl⟩)
        obtain ⟨j, rfl⟩ := hInt y hm
        rfl
      have dd : dictD (.tmp (.lst (ys.map fun x => D.tup [x, .bl true]))) st = .ok (.tmp (.dct (mergeD [] (ys.map fun x => (nk x, D.bl true))))) st := by
        show (match pairsD (ys.map fun x => D.tup [x, .bl true]) with
          | some ps => R.ok (D.tmp (.dct (mergeD [] ps))) st
          | none => R.stuck) = _
        rw [pairs_int ys hInt]
      have ln : lenD (.tmp (.dct (mergeD [] (ys.map fun x => (nk x, D.bl true))))) st = .ok (.int (cnt ys)) st := by
        show R.ok (D.int (mergeD [] (ys.map fun x => (nk x, D.bl true))).length) st = _
        rw [merge_cnt]
      have l1 : lenD (.tup ys) st = .ok (.int ys.length) st := rfl
      have le := cnt_le ys
      by_cases z : cnt ys = ys.length
      · have lb : listB (.tup ys) m = true := by simp only [listB, ha, z, Bool.true_and, decide_true]
        have lt : ¬ ((cnt ys : Nat) : Int) < (ys.length : Nat) := by omega
        rw [lb]
        simp [rowS, a0, lc, l0, cmpD, ne, dc, dd, ln, l1, ltD, z]
      · have lb : listB (.tup ys) m = false := by simp [listB, ha, z]
        have lt : ((cnt ys : Nat) : Int) < (ys.length : Nat) := by omega
        rw [lb]
        simp [rowS, a0, lc, l0, cmpD, ne, dc, dd, ln, l1, ltD, lt]
  · have lb : listB x m = false := by
      cases x with
      | tup ys => exact absurd rfl (hn _)
      | _ => rfl
    rw [lb]
    simp [rowS, e]
end Law
set_option Elab.async false
set_option linter.all false
set_option maxRecDepth 100000
set_option maxHeartbeats 4000000
namespace Law
open PySem Ev
theorem rows_loop {v : D} {m : Int} {st : Sto} : ∀ (xs : List D) (o2 o3 : Option D), (∀ x ∈ xs, Vd 1 st x) → ∃ f, loop (setT 2) rowS xs [some v, some (.int m), o2, o3] st = .ok f st ∧ (if (xs.all fun x => listB x m) = true then ∃ fr, f = .nx fr else f = .rt (.bl false))
  | [], o2, o3, _ => ⟨_, rfl, _, rfl⟩
  | x :: xs, o2, o3, h => by
    have hx := h x List.mem_cons_self
    have s : setT 2 x [some v, some (.int m), o2, o3] st = .ok [some v, some (.int m), some x, o3] st := setT_at hx.here.2.1
    unfold loop
    rw [bnd_app, s, bnd_ok, bnd_app, rowS_at hx, bnd_ok]
    cases q : listB x m with
    | true =>
      rw [if_pos rfl]
      obtain ⟨f, e, p⟩ := rows_loop xs (some x) o3 fun y m => h y (List.mem_cons_of_mem _ m)
      refine ⟨f, e, ?_⟩
      rw [List.all_cons, q, Bool.true_and]
      exact p
    | false =>
      rw [if_neg Bool.false_ne_true]
      refine ⟨_, rfl, ?_⟩
      rw [List.all_cons, q, Bool.false_and, if_neg Bool.false_ne_true]
theorem f_law_is_side {v : D} {st : Sto} {m : Int} (h : Vd 2 st v) : F__law_is_side [v, .int m] st = .ok (.bl (sideB v m)) st := by
  suffices e : B__law_is_side ([v, .int m].map some ++ List.replicate 2 none) st = .ok (.rt (.bl (sideB v m))) st from (fnD_ok (n := 2) (m := 2) rfl e).trans sweep_bl
  have f0 : ([v, .int m].map some ++ List.replicate 2 none) = [some v, some (.int m), none, none] := rfl
  rw [f0]
  rcases tup_or h with ⟨xs, rfl⟩ | ⟨hn, e⟩
  · have h2 : isInst "tuple" (.tup xs) st = .ok (.bl true) st := rfl
    have l1 : lenD (.tup xs) st = .ok (.int xs.length) st := rfl
    have hd : (ifS (orT (notT (testE (un1 (isInst "tuple") (varE 0)))) (notT (testE (chainE (cmpD .LtE) (cmpD .LtE) (conE (.int 1)) (un1 lenD (varE 0)) (conE (.int 40)))))) (retS (conE (.bl false))) nopS) [some (.tup xs), some (.int m), none, none] st = .ok (if (decide (1 ≤ xs.length) && decide (xs.length ≤ 40)) = true then .nx [some (.tup xs), some (.int m), none, none] else .rt (.bl false)) st := by
      by_cases q1 : 1 ≤ xs.length
      · have e1 : (1 : Int) ≤ ((xs.length : Nat) : Int) := by omega
        by_cases q2 : xs.length ≤ 40
        · have e2 : ((xs.length : Nat) : Int) ≤ 40 := by omega
          simp [h2, l1, cmpD, leD, q1, q2, e1, e2]
        · have e2 : ¬ ((xs.length : Nat) : Int) ≤ 40 := by omega
          simp [h2, l1, cmpD, leD, q1, q2, e1, e2]
      · have e1 : ¬ (1 : Int) ≤ ((xs.length : Nat) : Int) := by omega
        simp [h2, l1, cmpD, leD, q1, e1]
    unfold B__law_is_side
    rw [seqS_app, hd, bnd_ok]
    cases q : (decide (1 ≤ xs.length) && decide (xs.length ≤ 40)) with
    | false =>
      rw [if_neg Bool.false_ne_true]
      have : sideB (.tup xs) m = false := by simp only [sideB, q, Bool.false_and]
      rw [this]
      rfl
    | true =>
      rw [if_pos rfl]
      obtain ⟨f, el, p⟩ := rows_loop (v := .tup xs) (m := m) (st := st) xs none none h.item
      have ff := forS_ok (it := seqI (varE 0)) (q := setT 2) (body := rowS) (fr := [some (.tup xs), some (.int m), none, none]) (st := st) (items := xs) (ns := []) rfl el
      rw [unlocks_nil] at ff
      have sd : sideB (.tup xs) m = xs.all fun x => listB x m := by simp only [sideB, q, Bool.true_and]
      show (seqS (forS (seqI (varE 0)) (setT 2) rowS) (retS (conE (.bl true)))) [some (.tup xs), some (.int m), none, none] st = _
      rw [seqS_app, ff, bnd_ok, sd]
      cases q2 : xs.all fun x => listB x m with
      | true =>
        rw [q2, if_pos rfl] at p
        obtain ⟨fr, rfl⟩ := p
        rfl
      | false =>
        rw [q2, if_neg Bool.false_ne_true] at p
        subst p
        rfl
  · have hv : sideB v m = false := by
      cases v with
      | tup xs => exact absurd rfl (hn _)
      | _ => rfl
    rw [hv]
    simp [B__law_is_side, e]
/-! ### the law's fault -/
abbrev innerL : S := ifS (testE (bin2 (cmpD .NotIn) (varE 1) (bin2 ixD (bin2 ixD (varE 0) (conE (.int 1))) (varE 3)))) (retS (tupE [(conE (.str "left")), (varE 1), (varE 3)])) nopS
abbrev innerR : S := ifS (testE (bin2 (cmpD .NotIn) (varE 3) (bin2 ixD (bin2 ixD (varE 0) (conE (.int 0))) (varE 1)))) (retS (tupE [(conE (.str "right")), (varE 3), (varE 1)])) nopS
theorem innerL_loop {ls others : List D} {p : Int} {row : D} {st : Sto} {m : Nat} (ho : Rows m others) : ∀ (ys : List D) (o3 : Option D), (∀ y ∈ ys, ∃ o : Nat, y = .int o ∧ o < others.length) →
    ∃ f, loop (setT 3) innerL ys [some (.tup [.tup ls, .tup others]), some (.int p), some row, o3] st = .ok f st ∧
      match scanRow "left" p others ys with
      | some d => f = .rt d
      | none => ∃ o3', f = .nx [some (.tup [.tup ls, .tup others]), some (.int p), some row, o3']
  | [], o3, _ => ⟨_, rfl, o3, rfl⟩
  | y :: ys, o3, h => by
    obtain ⟨o, rfl, hlt⟩ := h y List.mem_cons_self
    obtain ⟨zs, ez, hz⟩ := rowsAt ho hlt
    have ix : ixD (.tup others) (.int o) st = .ok (.tup zs) st := by rw [ix_nat hlt, ez]
    have i1 : ixD (.tup [.tup ls, .tup others]) (.int 1) st = .ok (.tup others) st := rfl
    have ra : rowAt others (.int o) = .tup zs := by
      show others.getD ((o : Nat) : Int).toNat .non = _
      rw [Int.toNat_natCast, ez]
    have st1 : setT 3 (.int o) [some (.tup [.tup ls, .tup others]), some (.int p), some row, o3] st = .ok [some (.tup [.tup ls, .tup others]), some (.int p), some row, some (.int o)] st := setT_at rfl
    have ni := notIn_ints (p := p) (st := st) hz
    unfold loop scanRow
    rw [bnd_app, st1, bnd_ok, bnd_app, ra]
    cases hp : hasP p (.tup zs) with
    | true =>
      rw [hp] at ni
      have e : innerL [some (.tup [.tup ls, .tup others]), some (.int p), some row, some (.int o)] st = .ok (.nx [some (.tup [.tup ls, .tup others]), some (.int p), some row, some (.int o)]) st := by
        simp [innerL, ix, i1, cmpD, ni]
      rw [e, bnd_ok, if_pos rfl]
      exact innerL_loop ho ys (some (.int o)) fun z m => h z (List.mem_cons_of_mem _ m)
    | false =>
      rw [hp] at ni
      have e : innerL [some (.tup [.tup ls, .tup others]), some (.int p), some row, some (.int o)] st = .ok (.rt (.tup [.str "left", .int p, .int o])) st := by
        simp [innerL, ix, i1, cmpD, ni, tupE]
      rw [e, bnd_ok, if_neg Bool.false_ne_true]
      exact ⟨_, rfl, rfl⟩
theorem innerR_loop {rs others : List D} {p : Int} {row : D} {st : Sto} {m : Nat} (ho : Rows m others) : ∀ (ys : List D) (o1 : Option D), (∀ y ∈ ys, ∃ o : Nat, y = .int o ∧ o < others.length) →
    ∃ f, loop (setT 1) innerR ys [some (.tup [.tup others, .tup rs]), o1, some row, some (.int p)] st = .ok f st ∧
      match scanRow "right" p others ys with
      | some d => f = .rt d
      | none => ∃ o1', f = .nx [some (.tup [.tup others, .tup rs]), o1', some row, some (.int p)]
  | [], o1, _ => ⟨_, rfl, o1, rfl⟩
  | y :: ys, o1, h => by
    obtain ⟨o, rfl, hlt⟩ := h y List.mem_cons_self
    obtain ⟨zs, ez, hz⟩ := rowsAt ho hlt
    have ix : ixD (.tup others) (.int o) st = .ok (.tup zs) st := by rw [ix_nat hlt, ez]
    have i1 : ixD (.tup [.tup others, .tup rs]) (.int 0) st = .ok (.tup others) st := rfl
    have ra : rowAt others (.int o) = .tup zs := by
      show others.getD ((o : Nat) : Int).toNat .non = _
      rw [Int.toNat_natCast, ez]
    have st1 : setT 1 (.int o) [some (.tup [.tup others, .tup rs]), o1, some row, some (.int p)] st = .ok [some (.tup [.tup others, .tup rs]), some (.int o), some row, some (.int p)] st := setT_at rfl
    have ni := notIn_ints (p := p) (st := st) hz
    unfold loop scanRow
    rw [bnd_app, st1, bnd_ok, bnd_app, ra]
    cases hp : hasP p (.tup zs) with
    | true =>
      rw [hp] at ni
      have e : innerR [some (.tup [.tup others, .tup rs]), some (.int o), some row, some (.int p)] st = .ok (.nx [some (.tup [.tup others, .tup rs]), some (.int o), some row, some (.int p)]) st := by
        simp [innerR, ix, i1, cmpD, ni]
      rw [e, bnd_ok, if_pos rfl]
      exact innerR_loop ho ys (some (.int o)) fun z m => h z (List.mem_cons_of_mem _ m)
    | false =>
      rw [hp] at ni
      have e : innerR [some (.tup [.tup others, .tup rs]), some (.int o), some row, some (.int p)] st = .ok (.rt (.tup [.str "right", .int p, .int o])) st := by
        simp [innerR, ix, i1, cmpD, ni, tupE]
      rw [e, bnd_ok, if_neg Bool.false_ne_true]
      exact ⟨_, rfl, rfl⟩
end Law
set_option Elab.async false
set_option linter.all false
set_option maxRecDepth 100000
set_option maxHeartbeats 4000000
namespace Law
open PySem Ev
abbrev midL : S := forS (seqI (varE 2)) (setT 3) innerL
abbrev midR : S := forS (seqI (varE 2)) (setT 1) innerR
theorem midL_loop {ls others : List D} {st : Sto} {m : Nat} (ho : Rows m others) : ∀ (rows : List D) (n : Nat) (a b c : Option D), Rows others.length rows →
    ∃ f, loop (tupT [setT 1, setT 2]) midL (numb n rows) [some (.tup [.tup ls, .tup others]), a, b, c] st = .ok f st ∧
      match scanRows "left" others n rows with
      | some d => f = .rt d
      | none => ∃ a' b' c', f = .nx [some (.tup [.tup ls, .tup others]), a', b', c']
  | [], n, a, b, c, _ => ⟨_, rfl, a, b, c, rfl⟩
  | row :: rows, n, a, b, c, h => by
    obtain ⟨ys, rfl, hy⟩ := h row List.mem_cons_self
    have ih := fun a b c => midL_loop (ls := ls) (st := st) ho rows (n + 1) a b c fun r m => h r (List.mem_cons_of_mem _ m)
    obtain ⟨f1, e1, p1⟩ := innerL_loop (ls := ls) (others := others) (p := (n : Int)) (row := .tup ys) (st := st) ho ys c hy
    have e2 : midL [some (.tup [.tup ls, .tup others]), some (.int n), some (.tup ys), c] st = .ok f1 st :=
      forS_ok (it := seqI (varE 2)) (q := setT 3) (body := innerL) (fr := [some (.tup [.tup ls, .tup others]), some (.int n), some (.tup ys), c]) (st := st) (items := ys) (ns := []) rfl e1
    have tg : tupT [setT 1, setT 2] (.row [.int n, .tup ys]) [some (.tup [.tup ls, .tup others]), a, b, c] st = .ok [some (.tup [.tup ls, .tup others]), some (.int n), some (.tup ys), c] st := rfl
    unfold numb loop
    rw [scanRows_cons, bnd_app, tg, bnd_ok, bnd_app, e2, bnd_ok]
    cases q : scanRow "left" (n : Int) others ys with
    | some d =>
      rw [q] at p1
      subst p1
      exact ⟨_, rfl, rfl⟩
    | none =>
      rw [q] at p1
      obtain ⟨c', rfl⟩ := p1
      obtain ⟨f, e3, p3⟩ := ih (some (.int n)) (some (.tup ys)) c'
      refine ⟨f, e3, ?_⟩
      have : ((n + 1 : Nat) : Int) = (n : Int) + 1 := by omega
      rw [this] at p3
      exact p3
theorem midR_loop {rs others : List D} {st : Sto} {m : Nat} (ho : Rows m others) : ∀ (rows : List D) (n : Nat) (a b c : Option D), Rows others.length rows →
    ∃ f, loop (tupT [setT 3, setT 2]) midR (numb n rows) [some (.tup [.tup others, .tup rs]), a, b, c] st = .ok f st ∧
      match scanRows "right" others n rows with
      | some d => f = .rt d
      | none => ∃ a' b' c', f = .nx [some (.tup [.tup others, .tup rs]), a', b', c']
  | [], n, a, b, c, _ => ⟨_, rfl, a, b, c, rfl⟩
  | row :: rows, n, a, b, c, h => by
    obtain ⟨ys, rfl, hy⟩ := h row List.mem_cons_self
    have ih := fun a b c => midR_loop (rs := rs) (st := st) ho rows (n + 1) a b c fun r m => h r (List.mem_cons_of_mem _ m)
    obtain ⟨f1, e1, p1⟩ := innerR_loop (rs := rs) (others := others) (p := (n : Int)) (row := .tup ys) (st := st) ho ys a hy
    have e2 : midR [some (.tup [.tup others, .tup rs]), a, some (.tup ys), some (.int n)] st = .ok f1 st :=
      forS_ok (it := seqI (varE 2)) (q := setT 1) (body := innerR) (fr := [some (.tup [.tup others, .tup rs]), a, some (.tup ys), some (.int n)]) (st := st) (items := ys) (ns := []) rfl e1
    have tg : tupT [setT 3, setT 2] (.row [.int n, .tup ys]) [some (.tup [.tup others, .tup rs]), a, b, c] st = .ok [some (.tup [.tup others, .tup rs]), a, some (.tup ys), some (.int n)] st := rfl
    unfold numb loop
    rw [scanRows_cons, bnd_app, tg, bnd_ok, bnd_app, e2, bnd_ok]
    cases q : scanRow "right" (n : Int) others ys with
    | some d =>
      rw [q] at p1
      subst p1
      exact ⟨_, rfl, rfl⟩
    | none =>
      rw [q] at p1
      obtain ⟨a', rfl⟩ := p1
      obtain ⟨f, e3, p3⟩ := ih a' (some (.tup ys)) (some (.int n))
      refine ⟨f, e3, ?_⟩
      have : ((n + 1 : Nat) : Int) = (n : Int) + 1 := by omega
      rw [this] at p3
      exact p3
abbrev sL : S := forS (enumI (bin2 ixD (varE 0) (conE (.int 0)))) (tupT [(setT 1), (setT 2)]) midL
abbrev sR : S := forS (enumI (bin2 ixD (varE 0) (conE (.int 1)))) (tupT [(setT 3), (setT 2)]) midR
theorem tail_at {ls rs : List D} {st : Sto} (h1 : Rows rs.length ls) (h2 : Rows ls.length rs) : (seqS sL (seqS sR (retS (conE .non)))) [some (.tup [.tup ls, .tup rs]), none, none, none] st = .ok (.rt (match scanRows "left" rs 0 ls with
        | some d => d
        | none => match scanRows "right" ls 0 rs with
          | some d => d
          | none => D.non)) st := by
  obtain ⟨f1, e1, p1⟩ := midL_loop (ls := ls) (st := st) h2 ls 0 none none none h1
  have o1 : sL [some (.tup [.tup ls, .tup rs]), none, none, none] st = .ok f1 (unlocks [] st) := forS_ok (it := enumI (bin2 ixD (varE 0) (conE (.int 0)))) (q := tupT [setT 1, setT 2]) (body := midL) (fr := [some (.tup [.tup ls, .tup rs]), none, none, none]) (st := st) (items := numb 0 ls) (ns := []) rfl e1
  rw [unlocks_nil] at o1
  rw [seqS_app, o1, bnd_ok]
  cases q1 : scanRows "left" rs 0 ls with
  | some d =>
    have q1' : scanRows "left" rs ((0 : Nat) : Int) ls = some d := q1
    rw [q1'] at p1
    subst p1
    rfl
  | none =>
    have q1' : scanRows "left" rs ((0 : Nat) : Int) ls = none := q1
    rw [q1'] at p1
    obtain ⟨a', b', c', rfl⟩ := p1
    obtain ⟨f2, e2, p2⟩ := midR_loop (rs := rs) (st := st) h1 rs 0 a' b' c' h2
    have o2 : sR [some (.tup [.tup ls, .tup rs]), a', b', c'] st = .ok f2 (unlocks [] st) := forS_ok (it := enumI (bin2 ixD (varE 0) (conE (.int 1)))) (q := tupT [setT 3, setT 2]) (body := midR) (fr := [some (.tup [.tup ls, .tup rs]), a', b', c']) (st := st) (items := numb 0 rs) (ns := []) rfl e2
    rw [unlocks_nil] at o2
    show (seqS sR (retS (conE .non))) [some (.tup [.tup ls, .tup rs]), a', b', c'] st = _
    rw [seqS_app, o2, bnd_ok]
    cases q2 : scanRows "right" ls 0 rs with
    | some d =>
      have q2' : scanRows "right" ls ((0 : Nat) : Int) rs = some d := q2
      rw [q2'] at p2
      subst p2
      rfl
    | none =>
      have q2' : scanRows "right" ls ((0 : Nat) : Int) rs = none := q2
      rw [q2'] at p2
      obtain ⟨a2, b2, c2, rfl⟩ := p2
      rfl
theorem f_law_fault {v : D} {st : Sto} (h : Vd 3 st v) : F__law_fault [v] st = .ok (faultD v) st := by
  suffices e : B__law_fault ([v].map some ++ List.replicate 3 none) st = .ok (.rt (faultD v)) st from (fnD_ok (n := 1) (m := 3) rfl e).trans (sweep_same fault_low)
  have f0 : ([v].map some ++ List.replicate 3 none) = [some v, none, none, none] := rfl
  rw [f0]
  have noF : formB v = false → faultD v = .tup [.str "form"] := fun q => by unfold faultD; rw [q]; rfl
  rcases tup_or h with ⟨xs, rfl⟩ | ⟨hn, e0⟩
  · have a0 : isInst "tuple" (.tup xs) st = .ok (.bl true) st := rfl
    have l0 : lenD (.tup xs) st = .ok (.int xs.length) st := rfl
    by_cases h2 : xs.length = 2
    · match xs, h2 with
      | [a, b], _ =>
        have ha := h.item a (by simp)
        have hb := h.item b (by simp)
        have i0 : ixD (.tup [a, b]) (.int 0) st = .ok a st := rfl
        have i1 : ixD (.tup [a, b]) (.int 1) st = .ok b st := rfl
        have l2 : neD (.int ((2 : Nat) : Int)) (.int 2) st = .ok (.bl false) st := by
          unfold neD eqStr eqPy toPy
          simp [SeqAt.shaped, PyData.eqv, PyData.canLay0, PyData.depth]
        have l2' : lenD (.tup [a, b]) st = .ok (.int ((2 : Nat) : Int)) st := rfl
        have hd : (ifS (orT (notT (testE (un1 (isInst "tuple") (varE 0)))) (testE (bin2 (cmpD .NotEq) (un1 lenD (varE 0)) (conE (.int 2))))) (retS (tupE [(conE (.str "form"))])) nopS) [some (.tup [a, b]), none, none, none] st = .ok (.nx [some (.tup [a, b]), none, none, none]) st := by
          have : (bin2 (cmpD .NotEq) (un1 lenD (varE 0)) (conE (.int 2))) [some (.tup [a, b]), none, none, none] st = .ok (.bl false) st := by
            show ((lenD (.tup [a, b]) st).bnd fun x => bnd (ret (.int 2)) fun y => neD x y) = _
            rw [l2', bnd_ok]
            exact l2
          simp only [ifS_app, orT_app, notT_app, testE_app, un1_app, varE_0, bnd_ok, a0, bnd_app, truD_bl, ret_app, this, Bool.not_true]
          rfl
        unfold B__law_fault
        rw [seqS_app, hd, bnd_ok]
        rcases tup_or ha with ⟨ls, rfl⟩ | ⟨na, ea⟩
        · have ea : isInst "tuple" (.tup ls) st = .ok (.bl true) st := rfl
          rcases tup_or hb with ⟨rs, rfl⟩ | ⟨nb, eb⟩
          · have eb : isInst "tuple" (.tup rs) st = .ok (.bl true) st := rfl
            have s1 := f_law_is_side (m := rs.length) ha
            have s2 := f_law_is_side (m := ls.length) hb
            have l1 : ∀ zs : List D, lenD (.tup zs) st = .ok (.int zs.length) st := fun _ => rfl
            have h2 : (ifS (orT (notT (testE (un1 (isInst "tuple") (bin2 ixD (varE 0) (conE (.int 0)))))) (notT (testE (un1 (isInst "tuple") (bin2 ixD (varE 0) (conE (.int 1))))))) (retS (tupE [(conE (.str "form"))])) nopS) [some (.tup [.tup ls, .tup rs]), none, none, none] st = .ok (.nx [some (.tup [.tup ls, .tup rs]), none, none, none]) st := by
              simp [i0, i1, ea, eb]
            have h3 : (ifS (orT (notT (testE (callE 2 F__law_is_side [(bin2 ixD (varE 0) (conE (.int 0))), (un1 lenD (bin2 ixD (varE 0) (conE (.int 1))))]))) (notT (testE (callE 2 F__law_is_side [(bin2 ixD (varE 0) (conE (.int 1))), (un1 lenD (bin2 ixD (varE 0) (conE (.int 0))))])))) (retS (tupE [(conE (.str "form"))])) nopS) [some (.tup [.tup ls, .tup rs]), none, none, none] st = .ok (if formB (.tup [.tup ls, .tup rs]) = true then .nx [some (.tup [.tup ls, .tup rs]), none, none, none] else .rt (.tup [.str "form"])) st := by
              have fb : formB (.tup [.tup ls, .tup rs]) = (sideB (.tup ls) rs.length && sideB (.tup rs) ls.length) := rfl
              rw [fb]
              cases q1 : sideB (.tup ls) rs.length with
              | false => rw [q1] at s1; simp [i0, i1, l1, s1, tupE]
              | true =>
                rw [q1] at s1
                cases q2 : sideB (.tup rs) ls.length with
                | false => rw [q2] at s2; simp [i0, i1, l1, s1, s2, tupE]
                | true => rw [q2] at s2; simp [i0, i1, l1, s1, s2, tupE]
            show (seqS _ (seqS _ (seqS sL (seqS sR (retS (conE .non))))) [some (.tup [.tup ls, .tup rs]), none, none, none] st) = _
            rw [seqS_app, h2, bnd_ok]
            show (seqS _ (seqS sL (seqS sR (retS (conE .non)))) [some (.tup [.tup ls, .tup rs]), none, none, none] st) = _
            rw [seqS_app, h3, bnd_ok]
            cases q : formB (.tup [.tup ls, .tup rs]) with
            | false =>
              rw [if_neg Bool.false_ne_true, noF q]
              rfl
            | true =>
              rw [if_pos rfl]
              obtain ⟨ls', rs', ee, r1, r2⟩ := form_sides q
              cases ee
              show (seqS sL (seqS sR (retS (conE .non)))) [some (.tup [.tup ls, .tup rs]), none, none, none] st = _
              rw [tail_at r1 r2]
              unfold faultD
              rw [q]
              rfl
          · have fs : sides (.tup [.tup ls, b]) = none := by
              cases b <;> first | rfl | exact absurd rfl (nb _)
            have : formB (.tup [.tup ls, b]) = false := by unfold formB; rw [fs]
            rw [noF this]
            simp [i0, i1, ea, eb, tupE]
        · have fs : sides (.tup [a, b]) = none := by
            cases a <;> first | rfl | exact absurd rfl (na _)
          have : formB (.tup [a, b]) = false := by unfold formB; rw [fs]
          rw [noF this]
          simp [i0, i1, ea, tupE]
    · have fs : sides (.tup xs) = none := by
        unfold sides
        split
        · rename_i e
          cases e
          exact absurd rfl h2
        · rfl
      have : formB (.tup xs) = false := by unfold formB; rw [fs]
      rw [noF this]
      have l2 : neD (.int xs.length) (.int 2) st = .ok (.bl true) st := by
        unfold neD eqStr eqPy toPy
        simp [SeqAt.shaped, PyData.eqv, PyData.canLay0, PyData.depth]
        omega
      simp [B__law_fault, a0, l0, cmpD, l2, tupE]
  · have fs : sides v = none := by
      cases v <;> first | rfl | exact absurd rfl (hn _)
    have : formB v = false := by unfold formB; rw [fs]
    rw [noF this]
    simp [B__law_fault, e0, tupE]
end Law
set_option Elab.async false
set_option linter.all false
set_option maxRecDepth 100000
set_option maxHeartbeats 4000000
namespace Law
open PySem Ev
/-! ### dice -/
theorem ix_cell {st : Sto} {n : Nat} {xs : List D} {k : Int} {d : D} (h : st[n]? = some (.lst xs)) (hk : L2.atI xs k = some d) : ixD (.ref n) (.int k) st = .ok d st := by
  have e : seqAt st (.ref n) = some xs := by
    show (match (st[n]?).map Cell.bare with
      | some (.lst xs) => some xs
      | _ => none) = _
    rw [h]
    rfl
  show (match seqAt st (.ref n) with
    | some xs => match L2.atI xs k with
      | some d => R.ok d st
      | none => R.stuck
    | none => R.stuck) = _
  rw [e]
  simp only [hk]
theorem set_cell {st : Sto} {n : Nat} {xs : List D} {k : Int} {j : Nat} {v : D} (h : st[n]? = some (.lst xs)) (hk : L2.ixN xs.length k = some j) : setD (.ref n) (.int k) v st = .ok () (st.set n (.lst (xs.set j v))) := by
  show (match st[n]? with
    | some (.lst xs) => match L2.ixN xs.length k with
      | some j => R.ok () (st.set n (.lst (xs.set j v)))
      | none => R.stuck
    | _ => R.stuck) = _
  rw [h]
  simp only [hk]
theorem sweep_set {st : Sto} {n : Nat} {c : Cell} {d : D} (hc : c.lower st.length = true) (h : d.lower st.length = true) : sweep st d (st.set n c) = .ok d (st.set n c) := by
  unfold sweep
  have k : Kept st (st.set n c) := by
    refine ⟨fun i c' hi e => ?_, by simp⟩
    by_cases q : n = i
    · subst q
      rw [List.getElem?_set_self hi] at e
      cases e
      exact .inr hc
    · rw [List.getElem?_set_ne q] at e
      exact .inl e
  rw [if_pos k, if_pos h]
  congr 1
  rw [List.take_of_length_le (by simp)]
theorem mul_small {i j : Int} {st : Sto} (h : (-(2 ^ 64) < i ∧ i < 2 ^ 64) ∨ (-(2 ^ 64) < j ∧ j < 2 ^ 64)) : mulD (.int i) (.int j) st = .ok (.int (i * j)) st := by
  unfold mulD
  exact if_pos (L2.CMul.ok h)
theorem mod_int {i j : Int} {st : Sto} (h : j ≠ 0) : modD (.int i) (.int j) st = .ok (.int (i.fmod j)) st := by
  unfold modD
  exact if_neg h
theorem fdiv_int {i j : Int} {st : Sto} (h : j ≠ 0 ∧ j.natAbs < 1073741824) : fdivD (.int i) (.int j) st = .ok (.int (i.fdiv j)) st := by
  unfold fdivD
  exact if_pos h
theorem fmod_range {i j : Int} (h : 0 < j) : 0 ≤ i.fmod j ∧ i.fmod j < j := ⟨Int.fmod_nonneg_of_pos i h, Int.fmod_lt_of_pos i h⟩
/-- the dice lie at n -/
def Dice (st : Sto) (n : Nat) : Prop := ∃ a b c, st[n]? = some (.lst [.int a, .int b, .int c])
theorem Dice.lt {st : Sto} {n : Nat} (h : Dice st n) : n < st.length := by
  obtain ⟨a, b, c, e⟩ := h
  exact (List.getElem?_eq_some_iff.mp e).1
theorem f_roll {st : Sto} {n : Nat} {t : Int} (h : Dice st n) (h1 : 0 < t) (h2 : t < 1073741824) : ∃ r a b c, F__law_roll [.ref n, .int t] st = .ok (.int r) (st.set n (.lst [.int a, .int b, .int c])) ∧ 0 ≤ r ∧ r < t := by
  have hn := h.lt
  obtain ⟨a, b, c, e⟩ := h
  have i0 : ixD (.ref n) (.int 0) st = .ok (.int a) st := ix_cell e rfl
  have i1 : ixD (.ref n) (.int 1) st = .ok (.int b) st := ix_cell e rfl
  have i2 : ixD (.ref n) (.int 2) st = .ok (.int c) st := ix_cell e rfl
  have t0 : t ≠ 0 := by omega
  by_cases ha : 0 < a
  · have s0 : setD (.ref n) (.int 0) (.int (a.fdiv t)) st = .ok () (st.set n (.lst [.int (a.fdiv t), .int b, .int c])) := set_cell (k := 0) (j := 0) (v := .int (a.fdiv t)) e rfl
    refine ⟨a.fmod t, a.fdiv t, b, c, ?_, fmod_range h1⟩
    have eb : B__law_roll ([.ref n, .int t].map some ++ List.replicate 3 none) st = .ok (.rt (.int (a.fmod t))) (st.set n (.lst [.int (a.fdiv t), .int b, .int c])) := by
      simp [B__law_roll, i0, cmpD, gtD, ha, intD, mod_int t0, setT, subT, fdiv_int (st := st) (i := a) (j := t) ⟨t0, by omega⟩, s0]
    exact (fnD_ok (n := 2) (m := 3) rfl eb).trans (sweep_set rfl rfl)
  · have s2 : setD (.ref n) (.int 2) (.int (c + 1)) st = .ok () (st.set n (.lst [.int a, .int b, .int (c + 1)])) := set_cell (k := 2) (j := 2) (v := .int (c + 1)) e rfl
    generalize hs : st.set n (.lst [.int a, .int b, .int (c + 1)]) = st2 at s2
    have e2 : st2[n]? = some (.lst [.int a, .int b, .int (c + 1)]) := by rw [← hs, List.getElem?_set_self hn]
    have j1 : ixD (.ref n) (.int 1) st2 = .ok (.int b) st2 := ix_cell e2 rfl
    have j2 : ixD (.ref n) (.int 2) st2 = .ok (.int (c + 1)) st2 := ix_cell e2 rfl
    have m1 : mulD (.int 49979687) (.int (c + 1)) st2 = .ok (.int (49979687 * (c + 1))) st2 := mul_small (.inl ⟨by decide, by decide⟩)
    have m2 : mulD (.int 107) (.int (c + 1)) st2 = .ok (.int (107 * (c + 1))) st2 := mul_small (.inl ⟨by decide, by decide⟩)
    have r1 := fmod_range (i := b + 49979687 * (c + 1)) (j := 2305843009213693907) (by decide)
    generalize ho : (b + 49979687 * (c + 1)).fmod 2305843009213693907 = one at r1
    have m3 : mulD (.int one) (.int one) st2 = .ok (.int (one * one)) st2 := mul_small (.inl ⟨by omega, by omega⟩)
    have m4 : ∀ x, mulD (.int x) (.int 7368787) st2 = .ok (.int (x * 7368787)) st2 := fun x => mul_small (.inr ⟨by decide, by decide⟩)
    have q1 : modD (.int (b + 49979687 * (c + 1))) (.int 2305843009213693907) st2 = .ok (.int one) st2 := by rw [mod_int (by decide), ho]
    have q2 : ∀ x, modD (.int x) (.int 2305843009213693921) st2 = .ok (.int (x.fmod 2305843009213693921)) st2 := fun x => mod_int (by decide)
    have q3 : ∀ x, fdivD (.int x) (.int 65536) st2 = .ok (.int (x.fdiv 65536)) st2 := fun x => fdiv_int ⟨by decide, by decide⟩
    refine ⟨(((one * one + 107 * (c + 1)).fmod 2305843009213693921 * 7368787 + one).fdiv 65536).fmod t, a, b, c + 1, ?_, fmod_range h1⟩
    have eb : B__law_roll ([.ref n, .int t].map some ++ List.replicate 3 none) st = .ok (.rt (.int ((((one * one + 107 * (c + 1)).fmod 2305843009213693921 * 7368787 + one).fdiv 65536).fmod t))) st2 := by
      simp [B__law_roll, i0, i2, cmpD, gtD, ha, intD, mod_int t0, setT, subT, s2, addD, j1, j2, m1, m2, m3, m4, q1, q2, q3]
    refine (fnD_ok (n := 2) (m := 3) rfl eb).trans ?_
    show sweep st _ st2 = _
    rw [← hs]
    exact sweep_set rfl rfl
end Law
set_option Elab.async false
set_option linter.all false
set_option maxRecDepth 100000
set_option maxHeartbeats 4000000
namespace Law
open PySem Ev
theorem Dice.next {st : Sto} {n : Nat} (h : n < st.length) (a b c : Int) : Dice (st.set n (.lst [.int a, .int b, .int c])) n := ⟨a, b, c, List.getElem?_set_self h⟩
theorem f_pick {st : Sto} {n k : Nat} {xs : List D} (h : Dice st n) (hk : st[k]? = some (.lst xs)) (hne : k ≠ n) (h1 : 0 < xs.length) (h2 : xs.length < 1073741824) (low : ∀ x ∈ xs, x.lower st.length = true) :
    ∃ x ∈ xs, ∃ a b c, F__law_pick [.ref n, .ref k] st = .ok x (st.set n (.lst [.int a, .int b, .int c])) := by
  obtain ⟨r, a, b, c, er, r0, r1⟩ := f_roll (t := (xs.length : Int)) h (by omega) (by omega)
  have hl : lenD (.ref k) st = .ok (.int xs.length) st := by
    have e : cellAt st (.ref k) = some (.lst xs) := by
      show (st[k]?).map Cell.bare = _
      rw [hk]
      rfl
    show (match cellAt st (.ref k) with
      | some (.lst xs) => R.ok (D.int xs.length) st
      | some (.dct kvs) => R.ok (D.int kvs.length) st
      | _ => R.stuck) = _
    rw [e]
  have hj : r.toNat < xs.length := by omega
  have hk2 : (st.set n (.lst [.int a, .int b, .int c]))[k]? = some (.lst xs) := by rw [List.getElem?_set_ne (Ne.symm hne)]; exact hk
  have ix : ixD (.ref k) (.int r) (st.set n (.lst [.int a, .int b, .int c])) = .ok (xs[r.toNat]) (st.set n (.lst [.int a, .int b, .int c])) := by
    refine ix_cell hk2 ?_
    unfold L2.atI L2.ixN
    rw [if_pos r0, if_pos r1]
    simp [hj]
  refine ⟨xs[r.toNat], List.getElem_mem hj, a, b, c, ?_⟩
  have eb : B__law_pick ([.ref n, .ref k].map some ++ List.replicate 0 none) st = .ok (.rt (xs[r.toNat])) (st.set n (.lst [.int a, .int b, .int c])) := by
    simp [B__law_pick, hl, er, ix]
  exact (fnD_ok (n := 2) (m := 0) rfl eb).trans (sweep_set rfl (low _ (List.getElem_mem hj)))
end Law
set_option Elab.async false
set_option linter.all false
set_option maxRecDepth 100000
set_option maxHeartbeats 4000000
namespace Law
open PySem Ev
/-- what was made behind n cells is dropped, a fresh list is handed on -/
theorem sweep_new {st st' : Sto} {new : Sto} {k : Nat} {xs : List D} (hl : st'.length = st.length) (hk : Kept st st') (h : new[k]? = some (.lst xs)) (low : lowerAll st.length xs = true) : sweep st (.ref (st.length + k)) (st' ++ new) = .ok (.tmp (.lst xs)) st' := by
  unfold sweep
  have kp : Kept st (st' ++ new) := ⟨fun i c hi e => by
    rw [List.getElem?_append_left (by omega)] at e
    exact hk.1 i c hi e, by simp [hl]⟩
  have n1 : (D.ref (st.length + k)).lower st.length = false := decide_eq_false (by omega)
  rw [if_pos kp, if_neg (by rw [n1]; exact Bool.false_ne_true)]
  have e : (st' ++ new)[st.length + k]? = some (.lst xs) := by
    rw [List.getElem?_append_right (by omega), hl, Nat.add_sub_cancel_left]
    exact h
  have t : (st' ++ new).take st.length = st' := by rw [← hl, List.take_left']; rfl
  show (match (st' ++ new)[st.length + k]? with
    | some c => if (decide (st.length ≤ st.length + k) && !c.isLck && c.lower st.length) = true then R.ok (D.tmp c) ((st' ++ new).take st.length) else R.ok (D.ref (st.length + k)) (st' ++ new)
    | none => R.ok (D.ref (st.length + k)) (st' ++ new)) = _
  rw [e, t]
  have c1 : (Cell.lst xs).lower st.length = true := low
  have c2 : (Cell.lst xs).isLck = false := rfl
  simp [c1, c2]
theorem kept_dice {st : Sto} {n : Nat} (a b c : Int) : Kept st (st.set n (.lst [.int a, .int b, .int c])) := by
  refine ⟨fun i c' hi e => ?_, by simp⟩
  by_cases q : n = i
  · subst q
    rw [List.getElem?_set_self hi] at e
    cases e
    exact .inr rfl
  · rw [List.getElem?_set_ne q] at e
    exact .inl e
/-- the dice, changed -/
def Rolled (n : Nat) (st st' : Sto) : Prop := ∃ a b c, st' = st.set n (.lst [.int a, .int b, .int c])
theorem Rolled.trans {n : Nat} {st st1 st2 : Sto} (h : Rolled n st st1) (k : Rolled n st1 st2) : Rolled n st st2 := by
  obtain ⟨a, b, c, rfl⟩ := h
  obtain ⟨a', b', c', rfl⟩ := k
  exact ⟨a', b', c', by rw [List.set_set]⟩
theorem Rolled.refl {n : Nat} {st : Sto} (h : Dice st n) : Rolled n st st := by
  obtain ⟨a, b, c, e⟩ := h
  refine ⟨a, b, c, ?_⟩
  obtain ⟨hl, e⟩ := List.getElem?_eq_some_iff.mp e
  rw [← e, List.set_getElem_self]
theorem Rolled.dice {n : Nat} {st st' : Sto} (h : Dice st n) (k : Rolled n st st') : Dice st' n := by
  obtain ⟨a, b, c, rfl⟩ := k
  exact .next h.lt a b c
theorem Rolled.len {n : Nat} {st st' : Sto} (k : Rolled n st st') : st'.length = st.length := by
  obtain ⟨a, b, c, rfl⟩ := k
  simp
theorem Rolled.kept {n : Nat} {st st' : Sto} (k : Rolled n st st') : Kept st st' := by
  obtain ⟨a, b, c, rfl⟩ := k
  exact kept_dice a b c
theorem roll' {st new : Sto} {n : Nat} {t : Int} (h : Dice st n) (h1 : 0 < t) (h2 : t < 1073741824) : ∃ r st', F__law_roll [.ref n, .int t] (st ++ new) = .ok (.int r) (st' ++ new) ∧ Rolled n st st' ∧ 0 ≤ r ∧ r < t := by
  have hn := h.lt
  have hd : Dice (st ++ new) n := by
    obtain ⟨a, b, c, e⟩ := h
    exact ⟨a, b, c, by rw [List.getElem?_append_left hn]; exact e⟩
  obtain ⟨r, a, b, c, e, r0, r1⟩ := f_roll hd h1 h2
  exact ⟨r, st.set n (.lst [.int a, .int b, .int c]), by rw [e, List.set_append_left _ _ hn], ⟨a, b, c, rfl⟩, r0, r1⟩
end Law
set_option Elab.async false
set_option linter.all false
set_option maxRecDepth 100000
set_option maxHeartbeats 4000000
namespace Law
open PySem Ev
theorem two_0 {s : Sto} {a b : Cell} : (s ++ [a, b])[s.length]? = some a := by simp
theorem two_1 {s : Sto} {a b : Cell} : (s ++ [a, b])[s.length + 1]? = some b := by simp
theorem set_0 {s : Sto} {a b c : Cell} : (s ++ [a, b]).set s.length c = s ++ [c, b] := by
  rw [List.set_append_right _ _ (Nat.le_refl _)]
  simp
theorem set_1 {s : Sto} {a b c : Cell} : (s ++ [a, b]).set (s.length + 1) c = s ++ [a, c] := by
  rw [List.set_append_right _ _ (by omega)]
  simp
theorem kind_lst {s : Sto} {k : Nat} {xs : List D} (h : s[k]? = some (.lst xs)) : kindM ["list"] (.ref k) s = .ok "list" s ∧ sameM "list" (.ref k) s = .ok () s ∧ lenD (.ref k) s = .ok (.int xs.length) s := by
  have e : cellAt s (.ref k) = some (.lst xs) := by
    show (s[k]?).map Cell.bare = _
    rw [h]
    rfl
  have t : mType s (.ref k) = some "list" := by
    show (match cellAt s (.ref k) with
      | some (.lst _) => some "list"
      | some (.dct _) => some "dict"
      | _ => none) = _
    rw [e]
  refine ⟨?_, ?_, ?_⟩
  · unfold kindM
    rw [t]
    rfl
  · unfold sameM
    rw [if_pos t]
  · show (match cellAt s (.ref k) with
      | some (.lst xs) => R.ok (D.int xs.length) s
      | some (.dct kvs) => R.ok (D.int kvs.length) s
      | _ => R.stuck) = _
    rw [e]
theorem pop_at {s : Sto} {k : Nat} {xs : List D} {r : Int} (h : s[k]? = some (.lst xs)) (h0 : 0 ≤ r) (h1 : r < xs.length) : ∃ hj : r.toNat < xs.length, popD (.ref k) (.int r) s = .ok (xs[r.toNat]) (s.set k (.lst (xs.eraseIdx r.toNat))) := by
  have hj : r.toNat < xs.length := by omega
  refine ⟨hj, ?_⟩
  show (match s[k]? with
    | some (.lst xs) => match L2.ixN xs.length r with
      | some j => match xs[j]? with
        | some v => R.ok v (s.set k (.lst (xs.eraseIdx j)))
        | none => R.stuck
      | none => R.stuck
    | _ => R.stuck) = _
  rw [h]
  have e : L2.ixN xs.length r = some r.toNat := by unfold L2.ixN; rw [if_pos h0, if_pos h1]
  simp only [e, List.getElem?_eq_getElem hj]
theorem app_at {s : Sto} {k : Nat} {xs : List D} {v : D} (h : s[k]? = some (.lst xs)) (hv : v.kept = true) (hz : xs.length + 1 ≤ 1000) : appendD (.ref k) v s = .ok .non (s.set k (.lst (xs ++ [v]))) := by
  show (match s[k]? with
    | some (.lst xs) => if (!isTmp v && small (xs.length + 1)) = true then R.ok D.non (s.set k (.lst (xs ++ [v]))) else R.stuck
    | _ => R.stuck) = _
  rw [h]
  have t : isTmp v = false := by cases v <;> first | rfl | cases hv
  have z : small (xs.length + 1) = true := decide_eq_true (small_of hz)
  simp [t, z]
noncomputable abbrev mixS : S := exprS (meth1s ["list"] appendD (varE 3) (meth1 ["list"] popD (varE 2) (callE 2 F__law_roll [(varE 0), (un1 lenD (varE 2))])))
theorem mix_step {st : Sto} {n : Nat} {items : D} {rem acc : List D} {o4 : Option D} {L : Nat} (hL : L = st.length) (h : Dice st n) (h1 : 0 < rem.length) (hz : rem.length + acc.length ≤ 1000) (hk : ∀ x ∈ rem, x.kept = true) :
    ∃ j st', ∃ hj : j < rem.length, Rolled n st st' ∧ mixS [some (.ref n), some items, some (.ref L), some (.ref (L + 1)), o4] (st ++ [.lst rem, .lst acc]) = .ok (.nx [some (.ref n), some items, some (.ref L), some (.ref (L + 1)), o4]) (st' ++ [.lst (rem.eraseIdx j), .lst (acc ++ [rem[j]])]) := by
  subst hL
  obtain ⟨r, st', er, hr, r0, r1⟩ := roll' (new := [.lst rem, .lst acc]) (t := (rem.length : Int)) h (by omega) (by omega)
  have hl := hr.len
  obtain ⟨k1, _, _⟩ := kind_lst (two_1 (s := st) (a := .lst rem) (b := .lst acc))
  obtain ⟨k2, _, l2⟩ := kind_lst (two_0 (s := st) (a := .lst rem) (b := .lst acc))
  have c0 : (st' ++ [Cell.lst rem, .lst acc])[st.length]? = some (.lst rem) := by rw [← hl]; exact two_0
  obtain ⟨_, s2, _⟩ := kind_lst c0
  obtain ⟨hj, ep⟩ := pop_at c0 r0 r1
  have e0 : (st' ++ [Cell.lst rem, .lst acc]).set st.length (.lst (rem.eraseIdx r.toNat)) = st' ++ [.lst (rem.eraseIdx r.toNat), .lst acc] := by rw [← hl]; exact set_0
  rw [e0] at ep
  have c1 : (st' ++ [Cell.lst (rem.eraseIdx r.toNat), .lst acc])[st.length + 1]? = some (.lst acc) := by rw [← hl]; exact two_1
  obtain ⟨_, s1, _⟩ := kind_lst c1
  have kv : (rem[r.toNat]).kept = true := hk _ (List.getElem_mem hj)
  have ea := app_at c1 kv (by omega)
  have e1 : (st' ++ [Cell.lst (rem.eraseIdx r.toNat), .lst acc]).set (st.length + 1) (.lst (acc ++ [rem[r.toNat]])) = st' ++ [.lst (rem.eraseIdx r.toNat), .lst (acc ++ [rem[r.toNat]])] := by rw [← hl]; exact set_1
  rw [e1] at ea
  refine ⟨r.toNat, st', hj, hr, ?_⟩
  simp only [exprS_app, meth1s, meth1, bnd_app, varE_0, varE_1, varE_2, varE_3, bnd_ok, k1, k2, callE_app, allS_cons, allS_nil, un1_app, settle_ref, settle_int, l2, ret_app, List.length_cons, List.length_nil, if_true, er, s2, ep, settle_kept kv, s1, ea]
end Law
set_option Elab.async false
set_option linter.all false
set_option maxRecDepth 100000
set_option maxHeartbeats 4000000
namespace Law
open PySem Ev
theorem era_perm : ∀ (l : List D) (j : Nat) (h : j < l.length), (l[j] :: l.eraseIdx j).Perm l
  | x :: l, 0, _ => .refl _
  | x :: l, j + 1, h => by
    have ih := era_perm l j (by simpa using h)
    have hj : j < l.length := by simpa using h
    show (l[j]'hj :: x :: l.eraseIdx j).Perm (x :: l)
    exact (List.Perm.swap x _ _).trans (ih.cons x)
theorem mix_loop {n : Nat} {items : D} {L : Nat} : ∀ (is rem acc : List D) (st : Sto) (o4 : Option D), is.length = rem.length → L = st.length → Dice st n → rem.length + acc.length ≤ 1000 → (∀ x ∈ rem, x.kept = true) → (∀ x ∈ is, x.kept = true) →
    ∃ ys st' o, loop (setT 4) mixS is [some (.ref n), some items, some (.ref L), some (.ref (L + 1)), o4] (st ++ [.lst rem, .lst acc]) = .ok (.nx [some (.ref n), some items, some (.ref L), some (.ref (L + 1)), o]) (st' ++ [.lst [], .lst ys]) ∧ Rolled n st st' ∧ ys.Perm (acc ++ rem)
  | [], rem, acc, st, o4, hl, hL, hd, hz, hk, hi => by
    have : rem = [] := List.length_eq_zero_iff.mp hl.symm
    subst this
    exact ⟨acc, st, o4, rfl, .refl hd, by simp⟩
  | i :: is, rem, acc, st, o4, hl, hL, hd, hz, hk, hi => by
    have h1 : 0 < rem.length := by rw [← hl]; simp
    have s4 : setT 4 i [some (.ref n), some items, some (.ref L), some (.ref (L + 1)), o4] (st ++ [.lst rem, .lst acc]) = .ok [some (.ref n), some items, some (.ref L), some (.ref (L + 1)), some i] (st ++ [.lst rem, .lst acc]) := setT_at (hi i List.mem_cons_self)
    obtain ⟨j, st1, hj, r1, e1⟩ := mix_step (items := items) (acc := acc) (o4 := some i) hL hd h1 hz hk
    have le : (rem.eraseIdx j).length = rem.length - 1 := List.length_eraseIdx_of_lt hj
    obtain ⟨ys, st2, o, e2, r2, p⟩ := mix_loop (items := items) (L := L) is (rem.eraseIdx j) (acc ++ [rem[j]]) st1 (some i) (by rw [le, ← hl]; simp) (show L = st1.length by rw [hL, r1.len]) (r1.dice hd) (by rw [le]; simp; omega) (fun x hm => hk x (List.mem_of_mem_eraseIdx hm)) (fun x hm => hi x (List.mem_cons_of_mem _ hm))
    refine ⟨ys, st2, o, ?_, r1.trans r2, ?_⟩
    · unfold loop
      rw [bnd_app, s4, bnd_ok, bnd_app, e1, bnd_ok]
      exact e2
    · refine p.trans ?_
      rw [List.append_assoc]
      refine List.Perm.append_left acc ?_
      exact era_perm rem j hj
theorem range1_at {e : Ex} {fr : Fr} {st st' : Sto} {m : Nat} (h : e fr st = .ok (.int (m : Int)) st') (hm : m ≤ 1000) : range1I e fr st = .ok ⟨(List.range m).map fun i : Nat => D.int i, []⟩ st' := by
  have c : (decide (-(2 ^ 62) ≤ (m : Int) ∧ (m : Int) < 2 ^ 62) && small ((m : Int)).toNat) = true := by
    rw [Bool.and_eq_true]
    refine ⟨decide_eq_true ⟨by omega, by omega⟩, decide_eq_true (small_of ?_)⟩
    rw [Int.toNat_natCast]
    exact hm
  unfold range1I
  rw [bnd_app, h, bnd_ok]
  rw [Int.toNat_natCast] at c
  simp only [Int.toNat_natCast]
  rw [if_pos c]
  rfl
theorem f_mixed {st : Sto} {n : Nat} {items : D} {xs : List D} (h : Dice st n) (hit : items.kept = true) (hL : listD items st = .ok (.tmp (.lst xs)) st) (hN : ∀ s, lenD items (st ++ s) = .ok (.int xs.length) (st ++ s)) (hz : xs.length ≤ 1000) (hk : ∀ x ∈ xs, x.kept = true ∧ x.lower st.length = true) :
    ∃ ys st', F__law_mixed [.ref n, items] st = .ok (.tmp (.lst ys)) st' ∧ Rolled n st st' ∧ ys.Perm xs := by
  let is : List D := (List.range xs.length).map fun i : Nat => D.int i
  have il : is.length = xs.length := by simp [is]
  obtain ⟨ys, st', o, e, r, p⟩ := mix_loop (n := n) (items := items) (L := st.length) is xs [] st none il rfl h (by simpa using hz) (fun x m => (hk x m).1) (fun x m => by
    obtain ⟨i, _, rfl⟩ := List.mem_map.mp m
    rfl)
  have p : ys.Perm xs := by simpa using p
  have a1 : (asgS (tupT [(setT 2), (setT 3)]) (tupE [(un1 listD (varE 1)), (lstE [])])) [some (.ref n), some items, none, none, none] st = .ok (.nx [some (.ref n), some items, some (.ref st.length), some (.ref (st.length + 1)), none]) (st ++ [.lst xs, .lst []]) := by
    have l0 : ∀ fr s, lstE [] fr s = .ok (.tmp (.lst [])) s := fun _ _ => rfl
    have t : tupE [(un1 listD (varE 1)), (lstE [])] [some (.ref n), some items, none, none, none] st = .ok (.tup [.ref st.length, .ref (st.length + 1)]) (st ++ [.lst xs, .lst []]) := by
      simp [tupE, hL, l0]
    rw [asgS_app, t, bnd_ok]
    rfl
  have it : range1I (un1 lenD (varE 1)) [some (.ref n), some items, some (.ref st.length), some (.ref (st.length + 1)), none] (st ++ [.lst xs, .lst []]) = .ok ⟨is, []⟩ (st ++ [.lst xs, .lst []]) := by
    exact range1_at (hN _) hz
  have fo := forS_ok (it := range1I (un1 lenD (varE 1))) (q := setT 4) (body := mixS) it e
  rw [unlocks_nil] at fo
  have eb : B__law_mixed ([.ref n, items].map some ++ List.replicate 3 none) st = .ok (.rt (.ref (st.length + 1))) (st' ++ [.lst [], .lst ys]) := by
    show (seqS _ (seqS (forS (range1I (un1 lenD (varE 1))) (setT 4) mixS) (retS (varE 3)))) [some (.ref n), some items, none, none, none] st = _
    rw [seqS_app, a1, bnd_ok]
    show (seqS (forS (range1I (un1 lenD (varE 1))) (setT 4) mixS) (retS (varE 3))) [some (.ref n), some items, some (.ref st.length), some (.ref (st.length + 1)), none] (st ++ [.lst xs, .lst []]) = _
    rw [seqS_app, fo, bnd_ok]
    rfl
  refine ⟨ys, st', (fnD_ok (n := 2) (m := 3) rfl eb).trans ?_, r, p⟩
  refine sweep_new (k := 1) r.len r.kept rfl ?_
  have low : ∀ zs : List D, (∀ x ∈ zs, x.lower st.length = true) → lowerAll st.length zs = true := by
    intro zs
    induction zs with
    | nil => intro _; rfl
    | cons z zs ih => exact fun h => (Bool.and_eq_true _ _).mpr ⟨h z List.mem_cons_self, ih fun x m => h x (List.mem_cons_of_mem _ m)⟩
  exact low ys fun x m => (hk x (p.mem_iff.mp m)).2
end Law
set_option Elab.async false
set_option linter.all false
set_option maxRecDepth 100000
set_option maxHeartbeats 4000000
namespace Law
open PySem Ev
theorem big_ok : IntMulOk ((10 : Int) ^ 60) ((10 : Int) ^ 60) := by
  unfold IntMulOk
  decide +kernel
theorem pow_at {i j : Int} {st : Sto} (h : 0 ≤ j ∧ j ≤ 1000000 ∧ i.natAbs < 2 ^ 64) : powD (.int i) (.int j) st = .ok (.int (i ^ j.toNat)) st := by
  unfold powD
  exact if_pos h
theorem f_dice {ns : List Int} {k : Nat} {st : Sto} (hn : ns.length ≤ 63) (hk : k ≤ 10) : ∃ a b c, F__law_dice [scriptD ns, .int k] st = .ok (.tmp (.lst [.int a, .int b, .int c])) st := by
  have hl : lenD (scriptD ns) st = .ok (.int ns.length) st := by
    show R.ok (D.int (ns.map D.int).length) st = _
    rw [List.length_map]
  have cell : ∃ x : Int, (ifE (testE (bin2 (cmpD .Lt) (varE 1) (un1 lenD (varE 0)))) (un1 intD (bin2 ixD (varE 0) (varE 1))) (bin2 addD (bin2 mulD (conE (.int 101)) (varE 1)) (conE (.int 43)))) [some (scriptD ns), some (.int k), none, none] st = .ok (.int x) st := by
    by_cases q : k < ns.length
    · have q' : ((k : Nat) : Int) < (ns.length : Nat) := by omega
      have ix : ixD (scriptD ns) (.int k) st = .ok (.int (ns[k])) st := by
        show (match L2.atI (ns.map D.int) ((k : Nat) : Int) with
          | some d => R.ok d st
          | none => R.stuck) = _
        have : L2.atI (ns.map D.int) ((k : Nat) : Int) = some (.int (ns[k])) := by
          unfold L2.atI L2.ixN
          rw [if_pos (by omega), if_pos (by rw [List.length_map]; exact q')]
          simp [q]
        rw [this]
      exact ⟨ns[k], by simp [hl, cmpD, ltD, q, ix, intD]⟩
    · have m : mulD (.int 101) (.int k) st = .ok (.int (101 * k)) st := mul_small (.inl ⟨by decide, by decide⟩)
      exact ⟨101 * k + 43, by simp [hl, cmpD, ltD, q, m, addD]⟩
  obtain ⟨x, hx⟩ := cell
  have p16 : powD (.int 10) (.int 16) st = .ok (.int (10 ^ 16)) st := pow_at ⟨by decide, by decide, by decide⟩
  obtain ⟨B, p60, mb, nz⟩ : ∃ B : Int, powD (.int 10) (.int 60) st = .ok (.int B) st ∧ mulD (.int B) (.int B) st = .ok (.int (B * B)) st ∧ B * B ≠ 0 := by
    refine ⟨10 ^ 60, pow_at ⟨by decide, by decide, by decide⟩, ?_, by decide +kernel⟩
    unfold mulD
    exact if_pos big_ok
  have m1 : ∀ y, modD (.int y) (.int (B * B)) st = .ok (.int (y.fmod (B * B))) st := fun y => mod_int nz
  have m2 : ∀ y, modD (.int y) (.int 1152921504606846883) st = .ok (.int (y.fmod 1152921504606846883)) st := fun y => mod_int (by decide)
  have m3 : ∀ y, mulD (.int y) (.int 37) st = .ok (.int (y * 37)) st := fun y => mul_small (.inr ⟨by decide, by decide⟩)
  have m4 : ∀ y, mulD (.int 883) (.int y) st = .ok (.int (883 * y)) st := fun y => mul_small (.inl ⟨by decide, by decide⟩)
  have m5 : ∀ y, mulD (.int 29) (.int y) st = .ok (.int (29 * y)) st := fun y => mul_small (.inl ⟨by decide, by decide⟩)
  have e : ∃ a b c, B__law_dice ([scriptD ns, .int k].map some ++ List.replicate 2 none) st = .ok (.rt (.tmp (.lst [.int a, .int b, .int c]))) st := by
    have f0 : ([scriptD ns, .int k].map some ++ List.replicate 2 none) = [some (scriptD ns), some (.int k), none, none] := rfl
    rw [f0]
    unfold B__law_dice
    rw [seqS_app, asgS_app, hx, bnd_ok]
    simp [setT, maxD, absD, subD, p16, p60, mb, m1, lstE, m2, m3, m4, m5, addD, cmpD, ltD, intD]
  obtain ⟨a, b, c, e⟩ := e
  exact ⟨a, b, c, (fnD_ok (n := 2) (m := 2) rfl e).trans (sweep_same rfl)⟩
end Law
set_option Elab.async false
set_option linter.all false
set_option maxRecDepth 100000
set_option maxHeartbeats 4000000
namespace Law
open PySem Ev
theorem cell_app {st more : Sto} {k : Nat} {c : Cell} (h : st[k]? = some c) : (st ++ more)[k]? = some c := by
  rw [List.getElem?_append_left (List.getElem?_eq_some_iff.mp h).1]
  exact h
theorem cell_new {st : Sto} {c : Cell} : (st ++ [c])[st.length]? = some c := by simp
theorem cell_lt {st : Sto} {k : Nat} {c : Cell} (h : st[k]? = some c) : k < st.length := (List.getElem?_eq_some_iff.mp h).1
/-- the cells of st with the dice changed, more behind them -/
def Aft (n : Nat) (st st' : Sto) : Prop := ∃ a b c new, st' = st.set n (.lst [.int a, .int b, .int c]) ++ new
section
variable {n k : Nat} {st st' st1 st2 : Sto} {c : Cell}
theorem Aft.of (r : Rolled n st st') : Aft n st st' := by
  obtain ⟨a, b, c, rfl⟩ := r
  exact ⟨a, b, c, [], by simp⟩
theorem Aft.refl (h : Dice st n) : Aft n st st := .of (.refl h)
theorem Aft.grow (h : Aft n st st') (more : Sto) : Aft n st (st' ++ more) := by
  obtain ⟨a, b, c, new, rfl⟩ := h
  exact ⟨a, b, c, new ++ more, by simp⟩
theorem Aft.trans (h : Aft n st st1) (hn : n < st.length) (k : Aft n st1 st2) : Aft n st st2 := by
  obtain ⟨a, b, c, new, rfl⟩ := h
  obtain ⟨a', b', c', new', rfl⟩ := k
  refine ⟨a', b', c', new ++ new', ?_⟩
  rw [List.set_append_left _ _ (by simpa using hn), List.set_set, List.append_assoc]
theorem Aft.roll (h : Aft n st st1) (hn : n < st.length) (k : Rolled n st1 st2) : Aft n st st2 := h.trans hn (.of k)
theorem Aft.dice (h : Aft n st st') (hn : n < st.length) : Dice st' n := by
  obtain ⟨a, b, c, new, rfl⟩ := h
  exact ⟨a, b, c, cell_app (List.getElem?_set_self hn)⟩
theorem Aft.len (h : Aft n st st') : st.length ≤ st'.length := by
  obtain ⟨a, b, c, new, rfl⟩ := h
  simp
theorem Aft.set (h : Aft n st st') (hk : st.length ≤ k) (c : Cell) : Aft n st (st'.set k c) := by
  obtain ⟨x, y, z, new, rfl⟩ := h
  refine ⟨x, y, z, new.set (k - st.length) c, ?_⟩
  rw [List.set_append_right _ _ (by simpa using hk)]
  simp
theorem Aft.cell (h : Aft n st st') (hk : k ≠ n) (e : st[k]? = some c) : st'[k]? = some c := by
  obtain ⟨x, y, z, new, rfl⟩ := h
  refine cell_app ?_
  rw [List.getElem?_set_ne (Ne.symm hk)]
  exact e
theorem Rolled.cell (h : Rolled n st st') (hk : k ≠ n) (e : st[k]? = some c) : st'[k]? = some c := (Aft.of h).cell hk e
theorem Aft.kept (h : Aft n st st') : Kept st st' := by
  obtain ⟨x, y, z, new, rfl⟩ := h
  refine ⟨fun i c hi e => ?_, by simp⟩
  rw [List.getElem?_append_left (by simpa using hi)] at e
  exact (kept_dice x y z).1 i c hi e
theorem Aft.sweep {d : D} (h : Aft n st st') (low : d.lower st.length = true) : ∃ st'', Ev.sweep st d st' = .ok d st'' ∧ Rolled n st st'' := by
  have kp := h.kept
  obtain ⟨x, y, z, new, rfl⟩ := h
  refine ⟨_, ?_, x, y, z, rfl⟩
  unfold Ev.sweep
  rw [if_pos kp, if_pos low, List.take_left' (by simp)]
/-- a call that answers a value below -/
theorem fn_aft {N m : Nat} {body : S} {ds : List D} {d : D} (hn : ds.length = N) (h : body (ds.map some ++ List.replicate m none) st = .ok (.rt d) st') (a : Aft n st st') (low : d.lower st.length = true) : ∃ st'', fnD N m body ds st = .ok d st'' ∧ Rolled n st st'' := by
  obtain ⟨s2, e, r⟩ := a.sweep low
  exact ⟨s2, (fnD_ok hn h).trans e, r⟩
end
/-! ### comprehensions, with what stays true -/
theorem lcLoop_inv {q : Tg} {ts : List Te} {e : Ex} {fr : Fr} (I : List D → List D → Sto → Prop) (step : ∀ x xs acc st, I (x :: xs) acc st → ∃ fr1 st1, q x fr st = .ok fr1 st1 ∧ ∃ b st2, allT ts fr1 st1 = .ok b st2 ∧ (b = false → I xs acc st2) ∧ (b = true → ∃ d st3 d' st4, e fr1 st2 = .ok d st3 ∧ settle d st3 = .ok d' st4 ∧ I xs (acc ++ [d']) st4)) :
    ∀ items acc st, I items acc st → ∃ ds st', lcLoop q ts e fr items acc st = .ok ds st' ∧ I [] ds st'
  | [], acc, st, h => ⟨acc, st, rfl, h⟩
  | x :: xs, acc, st, h => by
    obtain ⟨fr1, st1, e1, b, st2, e2, hf, ht⟩ := step x xs acc st h
    unfold lcLoop
    rw [bnd_app, e1, bnd_ok, bnd_app, e2, bnd_ok]
    cases b with
    | false =>
      rw [if_neg Bool.false_ne_true]
      exact lcLoop_inv I step xs acc st2 (hf rfl)
    | true =>
      obtain ⟨d, st3, d', st4, e3, e4, hi⟩ := ht rfl
      rw [if_pos rfl, bnd_app, e3, bnd_ok, bnd_app, e4, bnd_ok]
      exact lcLoop_inv I step xs _ st4 hi
theorem lcE_inv {own : List Nat} {it : It} {q : Tg} {ts : List Te} {e : Ex} {fr : Fr} {items : List D} {st st1 : Sto} (I : List D → List D → Sto → Prop) (hi : it fr st = .ok ⟨items, []⟩ st1) (h0 : I items [] st1) (step : ∀ x xs acc st, I (x :: xs) acc st → ∃ fr1 st1, q x (wipe fr own) st = .ok fr1 st1 ∧ ∃ b st2, allT ts fr1 st1 = .ok b st2 ∧ (b = false → I xs acc st2) ∧ (b = true → ∃ d st3 d' st4, e fr1 st2 = .ok d st3 ∧ settle d st3 = .ok d' st4 ∧ I xs (acc ++ [d']) st4)) :
    ∃ ds st', lcE own it q ts e fr st = .ok (.tmp (.lst ds)) st' ∧ I [] ds st' := by
  obtain ⟨ds, st', e1, h⟩ := lcLoop_inv I step items [] st1 h0
  refine ⟨ds, st', ?_, h⟩
  show (it fr st).bnd _ = _
  rw [hi, bnd_ok]
  show (locked0 [] (lcLoop q ts e (wipe fr own) items []) st1).bnd _ = _
  unfold locked0
  rw [e1]
  rfl
/-! ### one statement behind another -/
theorem seq_nx {s t : S} {fr fr' : Fr} {st st' : Sto} (h : s fr st = .ok (.nx fr') st') : seqS s t fr st = t fr' st' := by rw [seqS_app, h, bnd_ok]
theorem seq_rt {s t : S} {fr : Fr} {st st' : Sto} {d : D} (h : s fr st = .ok (.rt d) st') : seqS s t fr st = .ok (.rt d) st' := by rw [seqS_app, h, bnd_ok]; rfl
theorem asg_set {i : Nat} {e : Ex} {fr : Fr} {st st' : Sto} {d : D} (h : e fr st = .ok d st') (hd : d.kept = true) : asgS (setT i) e fr st = .ok (.nx (fr.set i (some d))) st' := by rw [asgS_app, h, bnd_ok, bnd_app, setT_at hd]; rfl
theorem asg_new {i : Nat} {e : Ex} {fr : Fr} {st st' : Sto} {c : Cell} (h : e fr st = .ok (.tmp c) st') : asgS (setT i) e fr st = .ok (.nx (fr.set i (some (.ref st'.length)))) (st' ++ [c]) := by rw [asgS_app, h, bnd_ok]; rfl
theorem ret_at {e : Ex} {fr : Fr} {st st' : Sto} {d : D} (h : e fr st = .ok d st') : retS e fr st = .ok (.rt d) st' := by rw [retS_app, h]; rfl
theorem tup_two {a b : Ex} {fr : Fr} {s s1 s2 : Sto} {x y : D} (h1 : a fr s = .ok x s1) (hx : x.kept = true) (h2 : b fr s1 = .ok y s2) (hy : y.kept = true) : tupE [a, b] fr s = .ok (.tup [x, y]) s2 := by
  simp only [tupE, bnd_app, allS_cons, allS_nil, h1, bnd_ok, settle_kept hx, h2, settle_kept hy, ret_app]
theorem tup_three {a b c : Ex} {fr : Fr} {s s1 s2 s3 : Sto} {x y z : D} (h1 : a fr s = .ok x s1) (hx : x.kept = true) (h2 : b fr s1 = .ok y s2) (hy : y.kept = true) (h3 : c fr s2 = .ok z s3) (hz : z.kept = true) : tupE [a, b, c] fr s = .ok (.tup [x, y, z]) s3 := by
  simp only [tupE, bnd_app, allS_cons, allS_nil, h1, bnd_ok, settle_kept hx, h2, settle_kept hy, h3, settle_kept hz, ret_app]
theorem tup_new {a b : Ex} {fr : Fr} {s s1 s2 : Sto} {x y : Cell} (h1 : a fr s = .ok (.tmp x) s1) (h2 : b fr (s1 ++ [x]) = .ok (.tmp y) s2) : tupE [a, b] fr s = .ok (.tup [.ref s1.length, .ref s2.length]) (s2 ++ [y]) := by
  simp only [tupE, bnd_app, allS_cons, allS_nil, h1, bnd_ok, settle_tmp, h2, ret_app]
theorem un_at {f : D → M D} {a : Ex} {fr : Fr} {s s1 : Sto} {x : D} (h : a fr s = .ok x s1) : un1 f a fr s = f x s1 := by rw [un1_app, h, bnd_ok]
theorem bin_at {f : D → D → M D} {a b : Ex} {fr : Fr} {s s1 s2 : Sto} {x y : D} (h : a fr s = .ok x s1) (k : b fr s1 = .ok y s2) : bin2 f a b fr s = f x y s2 := by rw [bin2_app, h, bnd_ok, bnd_app, k, bnd_ok]
theorem call1 {F : Fn} {a : Ex} {fr : Fr} {s s1 : Sto} {x : D} (h : a fr s = .ok x s1) (hx : x.kept = true) : callE 1 F [a] fr s = F [x] s1 := by
  simp only [callE_app, allS_cons, allS_nil, h, bnd_ok, settle_kept hx, bnd_app, ret_app, List.length_cons, List.length_nil, Nat.zero_add, if_true]
theorem call2 {F : Fn} {a b : Ex} {fr : Fr} {s s1 s2 : Sto} {x y : D} (h : a fr s = .ok x s1) (hx : x.kept = true) (k : b fr s1 = .ok y s2) (hy : y.kept = true) : callE 2 F [a, b] fr s = F [x, y] s2 := by
  simp only [callE_app, allS_cons, allS_nil, h, bnd_ok, settle_kept hx, bnd_app, k, settle_kept hy, ret_app, List.length_cons, List.length_nil, Nat.zero_add, if_true]
theorem call2_new {F : Fn} {a b : Ex} {fr : Fr} {s s1 s2 : Sto} {x : D} {c : Cell} (h : a fr s = .ok x s1) (hx : x.kept = true) (k : b fr s1 = .ok (.tmp c) s2) : callE 2 F [a, b] fr s = F [x, .ref s2.length] (s2 ++ [c]) := by
  simp only [callE_app, allS_cons, allS_nil, h, bnd_ok, settle_kept hx, bnd_app, k, settle_tmp, ret_app, List.length_cons, List.length_nil, Nat.zero_add, if_true]
theorem call3 {F : Fn} {a b c : Ex} {fr : Fr} {s s1 s2 s3 : Sto} {x y z : D} (h : a fr s = .ok x s1) (hx : x.kept = true) (k : b fr s1 = .ok y s2) (hy : y.kept = true) (l : c fr s2 = .ok z s3) (hz : z.kept = true) : callE 3 F [a, b, c] fr s = F [x, y, z] s3 := by
  simp only [callE_app, allS_cons, allS_nil, h, bnd_ok, settle_kept hx, bnd_app, k, settle_kept hy, l, settle_kept hz, ret_app, List.length_cons, List.length_nil, Nat.zero_add, if_true, Nat.reduceAdd]
theorem call4 {F : Fn} {a b c d : Ex} {fr : Fr} {s s1 s2 s3 s4 : Sto} {x y z w : D} (h : a fr s = .ok x s1) (hx : x.kept = true) (k : b fr s1 = .ok y s2) (hy : y.kept = true) (l : c fr s2 = .ok z s3) (hz : z.kept = true) (m : d fr s3 = .ok w s4) (hw : w.kept = true) : callE 4 F [a, b, c, d] fr s = F [x, y, z, w] s4 := by
  simp only [callE_app, allS_cons, allS_nil, h, bnd_ok, settle_kept hx, bnd_app, k, settle_kept hy, l, settle_kept hz, m, settle_kept hw, ret_app, List.length_cons, List.length_nil, Nat.zero_add, if_true, Nat.reduceAdd]
theorem call4_new {F : Fn} {a b c d : Ex} {fr : Fr} {s s1 s2 s3 s4 : Sto} {x z w : D} {y : Cell} (h : a fr s = .ok x s1) (hx : x.kept = true) (k : b fr s1 = .ok (.tmp y) s2) (l : c fr (s2 ++ [y]) = .ok z s3) (hz : z.kept = true) (m : d fr s3 = .ok w s4) (hw : w.kept = true) : callE 4 F [a, b, c, d] fr s = F [x, .ref s2.length, z, w] s4 := by
  simp only [callE_app, allS_cons, allS_nil, h, bnd_ok, settle_kept hx, bnd_app, k, settle_tmp, l, settle_kept hz, m, settle_kept hw, ret_app, List.length_cons, List.length_nil, Nat.zero_add, if_true, Nat.reduceAdd]
theorem allT_at {q : Te} {k : Bool} {fr : Fr} {st st' : Sto} (h : q fr st = .ok k st') : allT [q] fr st = .ok k st' := by
  show (q fr st).bnd _ = _
  rw [h]
  cases k <;> rfl
theorem test_at {e : Ex} {k : Bool} {fr : Fr} {st st' : Sto} (h : e fr st = .ok (.bl k) st') : testE e fr st = .ok k st' := by
  rw [testE_app, h]
  rfl
theorem seqI_at {e : Ex} {fr : Fr} {st st' : Sto} {d : D} (h : e fr st = .ok d st') : seqI e fr st = srcOf d st' := by
  show (e fr st).bnd srcOf = _
  rw [h, bnd_ok]
/-! ### cells -/
theorem seq_cell {st : Sto} {k : Nat} {xs : List D} (h : st[k]? = some (.lst xs)) : seqAt st (.ref k) = some xs := by
  show (match (st[k]?).map Cell.bare with
    | some (.lst xs) => some xs
    | _ => none) = _
  rw [h]
  rfl
theorem tuple_cell {st : Sto} {k : Nat} {xs : List D} (h : st[k]? = some (.lst xs)) : tupleD (.ref k) st = .ok (.tup xs) st := by
  unfold tupleD
  rw [seq_cell h]
theorem list_cell {st : Sto} {k : Nat} {xs : List D} (h : st[k]? = some (.lst xs)) : listD (.ref k) st = .ok (.tmp (.lst xs)) st := by
  unfold listD
  rw [seq_cell h]
theorem len_cell {st : Sto} {k : Nat} {xs : List D} (h : st[k]? = some (.lst xs)) : lenD (.ref k) st = .ok (.int xs.length) st := (kind_lst h).2.2
theorem src_cell {st : Sto} {k : Nat} {xs : List D} (h : st[k]? = some (.lst xs)) : srcOf (.ref k) st = .ok ⟨xs, [k]⟩ (st.set k (.lck (.lst xs))) := by
  show (match st[k]? with
    | some (.lst xs) => lockAt k (.lst xs) xs st
    | some (.lck (.lst xs)) => .ok ⟨xs, []⟩ st
    | _ => .stuck) = _
  rw [h]
  rfl
theorem unlock_cell {st : Sto} {k : Nat} {xs : List D} (h : st[k]? = some (.lst xs)) : unlocks [k] (st.set k (.lck (.lst xs))) = st := by
  obtain ⟨hl, e⟩ := List.getElem?_eq_some_iff.mp h
  show (match (st.set k (.lck (.lst xs)))[k]? with
    | some (.lck c) => (st.set k (.lck (.lst xs))).set k c
    | _ => st.set k (.lck (.lst xs))) = st
  rw [List.getElem?_set_self hl]
  show (st.set k (.lck (.lst xs))).set k (.lst xs) = st
  rw [List.set_set, ← e, List.set_getElem_self]
theorem lowerAll_iff {n : Nat} : ∀ {xs : List D}, lowerAll n xs = true ↔ ∀ x ∈ xs, x.lower n = true
  | [] => ⟨fun _ _ m => (List.not_mem_nil m).elim, fun _ => rfl⟩
  | x :: xs => by
    show (x.lower n && lowerAll n xs) = true ↔ _
    rw [Bool.and_eq_true, lowerAll_iff, List.forall_mem_cons]
/-- rows of small lists of whole numbers below m -/
def Rw (B m : Nat) (rows : List D) : Prop := ∀ r ∈ rows, ∃ ys, r = .tup ys ∧ ys.length ≤ B ∧ ∀ y ∈ ys, ∃ o : Nat, y = .int o ∧ o < m
theorem Rw.rows {B m : Nat} {rows : List D} (h : Rw B m rows) : Rows m rows := fun r hr => by
  obtain ⟨ys, e, _, hy⟩ := h r hr
  exact ⟨ys, e, hy⟩
theorem Rw.low {B m k : Nat} {rows : List D} (h : Rw B m rows) : lowerAll k rows = true := lowerAll_iff.mpr fun r hr => by
  obtain ⟨ys, rfl, _, hy⟩ := h r hr
  exact lowerAll_iff.mpr fun y m => by
    obtain ⟨o, rfl, _⟩ := hy y m
    rfl
/-- wishes: n lefts, m rights -/
structure Wi (B n m : Nat) (d : D) (ls rs : List D) : Prop where
  eq : d = .tup [.tup ls, .tup rs]
  nl : ls.length = n
  nr : rs.length = m
  l : Rw B m ls
  r : Rw B n rs
theorem Wi.low {B n m k : Nat} {d : D} {ls rs : List D} (h : Wi B n m d ls rs) : d.lower k = true := by
  rw [h.eq]
  show (lowerAll k ls && (lowerAll k rs && true)) = true
  rw [h.l.low, h.r.low]
  rfl
end Law
set_option Elab.async false
set_option linter.all false
set_option maxRecDepth 100000
set_option maxHeartbeats 4000000
namespace Law
open PySem Ev
/-- a pair of an l below n, an r below m -/
def Pr (n m : Nat) (d : D) : Prop := ∃ l r : Nat, d = .tup [.int l, .int r] ∧ l < n ∧ r < m
theorem ext_at {s : Sto} {k : Nat} {xs ys : List D} (h : s[k]? = some (.lst xs)) (hz : xs.length + ys.length ≤ 1000) : extendD (.ref k) (.tmp (.lst ys)) s = .ok .non (s.set k (.lst (xs ++ ys))) := by
  show (match s[k]?, freeL s (.tmp (.lst ys)) with
    | some (.lst xs), some ys => if small (xs.length + ys.length) = true then R.ok D.non (s.set k (.lst (xs ++ ys))) else .stuck
    | _, _ => .stuck) = _
  rw [h]
  exact if_pos (decide_eq_true (small_of hz))
theorem ext_call {o a : Ex} {fr : Fr} {s : Sto} {k : Nat} {xs ys : List D} (ho : o fr s = .ok (.ref k) s) (ha : a fr s = .ok (.tmp (.lst ys)) s) (h : s[k]? = some (.lst xs)) (hz : xs.length + ys.length ≤ 1000) : exprS (meth1 ["list"] extendD o a) fr s = .ok (.nx fr) (s.set k (.lst (xs ++ ys))) := by
  obtain ⟨k1, s1, _⟩ := kind_lst h
  have ex := ext_at (ys := ys) h hz
  simp only [exprS_app, meth1, bnd_app, ho, bnd_ok, k1, ha, s1, ex, ret_app]
theorem app_call {o a : Ex} {fr : Fr} {s s2 : Sto} {k : Nat} {xs : List D} {v : D} (ho : o fr s = .ok (.ref k) s) (ha : a fr s = .ok v s2) (h : s[k]? = some (.lst xs)) (h2 : s2[k]? = some (.lst xs)) (hv : v.kept = true) (hz : xs.length + 1 ≤ 1000) : exprS (meth1s ["list"] appendD o a) fr s = .ok (.nx fr) (s2.set k (.lst (xs ++ [v]))) := by
  obtain ⟨k1, _, _⟩ := kind_lst h
  obtain ⟨_, s1, _⟩ := kind_lst h2
  have ex := app_at h2 hv hz
  simp only [exprS_app, meth1s, bnd_app, ho, bnd_ok, k1, ha, settle_kept hv, s1, ex, ret_app]
noncomputable abbrev gridS : S := exprS (meth1 ["list"] extendD (varE 2) (lcE [4] (range1I (varE 1)) (setT 4) [] (tupE [(varE 3), (varE 4)])))
theorem grid_loop {n m L : Nat} (hm : m ≤ 30) : ∀ (is acc : List D) (st : Sto) (o3 o4 : Option D), (∀ x ∈ is, ∃ l : Nat, x = .int l ∧ l < n) → L = st.length → (∀ d ∈ acc, Pr n m d) → acc.length + is.length * m ≤ 1000 →
    ∃ ys o3' o4', loop (setT 3) gridS is [some (.int n), some (.int m), some (.ref L), o3, o4] (st ++ [.lst acc]) = .ok (.nx [some (.int n), some (.int m), some (.ref L), o3', o4']) (st ++ [.lst ys]) ∧ (∀ d ∈ ys, Pr n m d) ∧ ys.length = acc.length + is.length * m := by
  intro is
  induction is with
  | nil => exact fun acc st o3 o4 hi hL ha hz => ⟨acc, o3, o4, rfl, ha, by simp⟩
  | cons x is ih =>
    intro acc st o3 o4 hi hL ha hz
    obtain ⟨l, rfl, hl⟩ := hi x List.mem_cons_self
    have hz' : acc.length + (is.length + 1) * m ≤ 1000 := hz
    rw [Nat.add_mul, Nat.one_mul] at hz'
    let row : List D := ((List.range m).map fun i : Nat => D.int i).map fun y => .tup [.int l, y]
    have lr : row.length = m := by simp [row]
    have it : range1I (varE 1) [some (.int n), some (.int m), some (.ref L), some (.int l), o4] (st ++ [.lst acc]) = .ok ⟨(List.range m).map fun i : Nat => D.int i, []⟩ (st ++ [.lst acc]) := range1_at (m := m) rfl (by omega)
    have lc : lcE [4] (range1I (varE 1)) (setT 4) [] (tupE [(varE 3), (varE 4)]) [some (.int n), some (.int m), some (.ref L), some (.int l), o4] (st ++ [.lst acc]) = .ok (.tmp (.lst row)) (st ++ [.lst acc]) := by
      refine lcE_map (ns := []) (st1 := st ++ [.lst acc]) (fr1 := fun y => [some (.int n), some (.int m), some (.ref L), some (.int l), some y]) it (fun y hy => ?_) (fun y hy => ?_)
      · obtain ⟨i, _, rfl⟩ := List.mem_map.mp hy
        rfl
      · obtain ⟨i, _, rfl⟩ := List.mem_map.mp hy
        exact ⟨rfl, rfl⟩
    have c0 : (st ++ [Cell.lst acc])[L]? = some (.lst acc) := by rw [hL]; exact cell_new
    have e0 : (st ++ [Cell.lst acc]).set L (.lst (acc ++ row)) = st ++ [.lst (acc ++ row)] := by
      rw [hL, List.set_append_right _ _ (Nat.le_refl _)]
      simp
    have e1 : gridS [some (.int n), some (.int m), some (.ref L), some (.int l), o4] (st ++ [.lst acc]) = .ok (.nx [some (.int n), some (.int m), some (.ref L), some (.int l), o4]) (st ++ [.lst (acc ++ row)]) :=
      (ext_call rfl lc c0 (by rw [lr]; omega)).trans (congrArg _ e0)
    obtain ⟨ys, o3', o4', e2, p, lz⟩ := ih (acc ++ row) st (some (.int l)) o4 (fun x m => hi x (List.mem_cons_of_mem _ m)) hL (fun d hd => by
      rcases List.mem_append.mp hd with hd | hd
      · exact ha d hd
      · obtain ⟨y, hy, rfl⟩ := List.mem_map.mp hd
        obtain ⟨i, hi, rfl⟩ := List.mem_map.mp hy
        exact ⟨l, i, rfl, hl, List.mem_range.mp hi⟩) (by rw [List.length_append, lr]; omega)
    refine ⟨ys, o3', o4', ?_, p, ?_⟩
    · unfold loop
      have s3 : setT 3 (.int l) [some (.int n), some (.int m), some (.ref L), o3, o4] (st ++ [.lst acc]) = .ok [some (.int n), some (.int m), some (.ref L), some (.int l), o4] (st ++ [.lst acc]) := rfl
      rw [bnd_app, s3, bnd_ok, bnd_app, e1, bnd_ok]
      exact e2
    · rw [lz, List.length_append, lr, List.length_cons, Nat.add_mul, Nat.one_mul]
      omega
theorem f_grid {n m : Nat} {st : Sto} (hn : n ≤ 30) (hm : m ≤ 30) : ∃ ys, F__law_grid [.int n, .int m] st = .ok (.tmp (.lst ys)) st ∧ (∀ d ∈ ys, Pr n m d) ∧ ys.length = n * m := by
  have nm : n * m ≤ 30 * 30 := Nat.mul_le_mul hn hm
  obtain ⟨ys, o3, o4, e, p, lz⟩ := grid_loop (n := n) (m := m) (L := st.length) hm ((List.range n).map fun i : Nat => D.int i) [] st none none (fun x hx => by
    obtain ⟨i, hi, rfl⟩ := List.mem_map.mp hx
    exact ⟨i, rfl, List.mem_range.mp hi⟩) rfl (fun d hd => (List.not_mem_nil hd).elim) (by simp; omega)
  have lz : ys.length = n * m := by simpa using lz
  refine ⟨ys, ?_, p, lz⟩
  have it : range1I (varE 0) [some (.int n), some (.int m), some (.ref st.length), none, none] (st ++ [.lst []]) = .ok ⟨(List.range n).map fun i : Nat => D.int i, []⟩ (st ++ [.lst []]) := range1_at rfl (by omega)
  have fo := forS_ok (it := range1I (varE 0)) (q := setT 3) (body := gridS) it e
  rw [unlocks_nil] at fo
  have eb : B__law_grid ([.int n, .int m].map some ++ List.replicate 3 none) st = .ok (.rt (.ref (st.length + 0))) (st ++ [.lst ys]) := by
    have a1 : asgS (setT 2) (lstE []) [some (.int n), some (.int m), none, none, none] st = .ok (.nx [some (.int n), some (.int m), some (.ref st.length), none, none]) (st ++ [.lst []]) := rfl
    refine (seq_nx a1).trans ?_
    refine (seq_nx fo).trans ?_
    rfl
  refine (fnD_ok (n := 2) (m := 3) rfl eb).trans ?_
  exact sweep_new (k := 0) rfl (Kept.refl st) rfl (lowerAll_iff.mpr fun d hd => by
    obtain ⟨l, r, rfl, _, _⟩ := p d hd
    rfl)
end Law
set_option Elab.async false
set_option linter.all false
set_option maxRecDepth 100000
set_option maxHeartbeats 4000000
namespace Law
open PySem Ev
def p1 (d : D) : D := match d with
  | .tup [l, _] => l
  | _ => .non
def p2 (d : D) : D := match d with
  | .tup [_, r] => r
  | _ => .non
/-- a row of whole numbers below m -/
def Nat1 (B m : Nat) (ys : List D) : Prop := ys.length ≤ B ∧ ∀ y ∈ ys, ∃ o : Nat, y = .int o ∧ o < m
theorem Nat1.kept {B m : Nat} {ys : List D} (h : Nat1 B m ys) (k : Nat) : ∀ x ∈ ys, x.kept = true ∧ x.lower k = true := fun x hx => by
  obtain ⟨o, rfl, _⟩ := h.2 x hx
  exact ⟨rfl, rfl⟩
noncomputable abbrev colL : Ex := lcE [7, 8] (seqI (varE 1)) (tupT [(setT 7), (setT 8)]) [(testE (bin2 (cmpD .Eq) (varE 7) (varE 6)))] (varE 8)
noncomputable abbrev colR : Ex := lcE [7, 8] (seqI (varE 1)) (tupT [(setT 7), (setT 8)]) [(testE (bin2 (cmpD .Eq) (varE 8) (varE 6)))] (varE 7)
section
variable {n k N M : Nat} {ps : List D} {st : Sto} {o4 o5 o7 o8 : Option D} {one : Nat}
theorem colL_at (e : st[k]? = some (.lst ps)) (hp : ∀ d ∈ ps, Pr N M d) : colL [some (.ref n), some (.ref k), some (.int N), some (.int M), o4, o5, some (.int one), o7, o8] st = .ok (.tmp (.lst ((ps.filter fun d => isP one (p1 d)).map p2))) st := by
  have := lcE_pure (own := [7, 8]) (it := seqI (varE 1)) (q := tupT [(setT 7), (setT 8)]) (ts := [(testE (bin2 (cmpD .Eq) (varE 7) (varE 6)))]) (e := varE 8) (fr := [some (.ref n), some (.ref k), some (.int N), some (.int M), o4, o5, some (.int one), o7, o8]) (st := st) (items := ps) (ns := [k]) (st1 := st.set k (.lck (.lst ps))) (fr1 := fun d => [some (.ref n), some (.ref k), some (.int N), some (.int M), o4, o5, some (.int one), some (p1 d), some (p2 d)]) (p := fun d => isP one (p1 d)) (g := p2) (src_cell e) (fun x hx => by
      obtain ⟨l, r, rfl, _, _⟩ := hp x hx
      rfl) (fun x hx => by
      obtain ⟨l, r, rfl, _, _⟩ := hp x hx
      refine allT_one ?_
      have : eqD (.int l) (.int one) (st.set k (.lck (.lst ps))) = .ok (.bl (decide ((l : Int) = one))) (st.set k (.lck (.lst ps))) := eqD_int
      show ((eqD (.int l) (.int one) (st.set k (.lck (.lst ps)))).bnd truD) = _
      rw [this]
      rfl) (fun x hx _ => by
      obtain ⟨l, r, rfl, _, _⟩ := hp x hx
      exact ⟨rfl, rfl⟩)
  rw [unlock_cell e] at this
  exact this
theorem colR_at (e : st[k]? = some (.lst ps)) (hp : ∀ d ∈ ps, Pr N M d) : colR [some (.ref n), some (.ref k), some (.int N), some (.int M), o4, o5, some (.int one), o7, o8] st = .ok (.tmp (.lst ((ps.filter fun d => isP one (p2 d)).map p1))) st := by
  have := lcE_pure (own := [7, 8]) (it := seqI (varE 1)) (q := tupT [(setT 7), (setT 8)]) (ts := [(testE (bin2 (cmpD .Eq) (varE 8) (varE 6)))]) (e := varE 7) (fr := [some (.ref n), some (.ref k), some (.int N), some (.int M), o4, o5, some (.int one), o7, o8]) (st := st) (items := ps) (ns := [k]) (st1 := st.set k (.lck (.lst ps))) (fr1 := fun d => [some (.ref n), some (.ref k), some (.int N), some (.int M), o4, o5, some (.int one), some (p1 d), some (p2 d)]) (p := fun d => isP one (p2 d)) (g := p1) (src_cell e) (fun x hx => by
      obtain ⟨l, r, rfl, _, _⟩ := hp x hx
      rfl) (fun x hx => by
      obtain ⟨l, r, rfl, _, _⟩ := hp x hx
      refine allT_one ?_
      have : eqD (.int r) (.int one) (st.set k (.lck (.lst ps))) = .ok (.bl (decide ((r : Int) = one))) (st.set k (.lck (.lst ps))) := eqD_int
      show ((eqD (.int r) (.int one) (st.set k (.lck (.lst ps)))).bnd truD) = _
      rw [this]
      rfl) (fun x hx _ => by
      obtain ⟨l, r, rfl, _, _⟩ := hp x hx
      exact ⟨rfl, rfl⟩)
  rw [unlock_cell e] at this
  exact this
/-- mixing a list in hand -/
theorem mixed_tmp {X : List D} {m B : Nat} (hd : Dice st n) (hX : Nat1 B m X) (hB : B ≤ 1000) : ∃ ys st', F__law_mixed [.ref n, .ref st.length] (st ++ [.lst X]) = .ok (.tmp (.lst ys)) st' ∧ Aft n st st' ∧ ys.Perm X := by
  have hn := hd.lt
  have d2 : Dice (st ++ [.lst X]) n := by
    obtain ⟨a, b, c, e⟩ := hd
    exact ⟨a, b, c, cell_app e⟩
  obtain ⟨ys, st', e, r, p⟩ := f_mixed (items := .ref st.length) (xs := X) d2 rfl (list_cell cell_new) (fun s => len_cell (cell_app cell_new)) (Nat.le_trans hX.1 hB) (hX.kept _)
  exact ⟨ys, st', e, ((Aft.refl hd).grow _).roll hn r, p⟩
theorem Nat1.perm {B m : Nat} {X ys : List D} (h : Nat1 B m X) (p : ys.Perm X) : Nat1 B m ys := ⟨by rw [p.length_eq]; exact h.1, fun y hy => h.2 y (p.mem_iff.mp hy)⟩
theorem call_mixed {e : Ex} {fr : Fr} {X : List D} {m B : Nat} (h0 : varE 0 fr st = .ok (.ref n) st) (he : e fr st = .ok (.tmp (.lst X)) st) (hd : Dice st n) (hX : Nat1 B m X) (hB : B ≤ 1000) : ∃ ys st', callE 2 F__law_mixed [varE 0, e] fr st = .ok (.tmp (.lst ys)) st' ∧ Aft n st st' ∧ ys.Perm X := by
  obtain ⟨ys, st', e1, r⟩ := mixed_tmp hd hX hB
  refine ⟨ys, st', ?_, r⟩
  simp only [callE_app, allS_cons, allS_nil, h0, bnd_ok, settle_ref, bnd_app, he, settle_tmp, ret_app, List.length_cons, List.length_nil, Nat.zero_add, if_true, e1]
theorem sideL (e : st[k]? = some (.lst ps)) (hkn : k ≠ n) (hp : ∀ d ∈ ps, Pr N M d) (hz : ps.length ≤ 1000) (hd : Dice st n) (hN : N ≤ 1000) : ∃ ls st', lcE [6] (range1I (varE 2)) (setT 6) [] (un1 tupleD (callE 2 F__law_mixed [(varE 0), colL])) [some (.ref n), some (.ref k), some (.int N), some (.int M), o4, o5, none, o7, o8] st = .ok (.tmp (.lst ls)) st' ∧ Aft n st st' ∧ ls.length = N ∧ Rw ps.length M ls := by
  have hn := hd.lt
  obtain ⟨ds, st', e1, a, l, r, _⟩ := lcE_inv (own := [6]) (it := range1I (varE 2)) (q := setT 6) (ts := []) (e := un1 tupleD (callE 2 F__law_mixed [(varE 0), colL])) (fr := [some (.ref n), some (.ref k), some (.int N), some (.int M), o4, o5, none, o7, o8]) (items := (List.range N).map fun i : Nat => D.int i) (st := st) (st1 := st)
    (fun rem acc s => Aft n st s ∧ acc.length + rem.length = N ∧ Rw ps.length M acc ∧ ∀ x ∈ rem, ∃ i : Nat, x = .int i) (range1_at rfl hN) ⟨.refl hd, by simp, (fun r hr => (List.not_mem_nil hr).elim), fun x hx => by
      obtain ⟨i, _, rfl⟩ := List.mem_map.mp hx
      exact ⟨i, rfl⟩⟩ (fun x xs acc s h => by
      obtain ⟨a, l, r, hi⟩ := h
      obtain ⟨i, rfl⟩ := hi x List.mem_cons_self
      have X1 : Nat1 ps.length M ((ps.filter fun d => isP i (p1 d)).map p2) := ⟨by rw [List.length_map]; exact List.length_filter_le _ _, fun y hy => by
        obtain ⟨d, hd, rfl⟩ := List.mem_map.mp hy
        obtain ⟨l, r, rfl, _, hr⟩ := hp d (List.mem_filter.mp hd).1
        exact ⟨r, rfl, hr⟩⟩
      obtain ⟨ys, s2, e2, a2, p⟩ := call_mixed (fr := [some (.ref n), some (.ref k), some (.int N), some (.int M), o4, o5, some (.int i), o7, o8]) (e := colL) rfl (colL_at (a.cell hkn e) hp) (a.dice hn) X1 hz
      have Y := X1.perm p
      refine ⟨_, s, rfl, true, s, rfl, nofun, fun _ => ⟨.tup ys, s2, .tup ys, s2, ?_, rfl, a.trans hn a2, ?_, ?_, fun x m => hi x (List.mem_cons_of_mem _ m)⟩⟩
      · rw [un1_app]
        refine (congrArg (fun r => R.bnd r tupleD) e2).trans ?_
        rfl
      · simp only [List.length_append, List.length_cons, List.length_nil] at l ⊢
        omega
      · intro d hd
        rcases List.mem_append.mp hd with hd | hd
        · exact r d hd
        · rw [List.mem_singleton.mp hd]
          exact ⟨ys, rfl, Y.1, Y.2⟩)
  exact ⟨ds, st', e1, a, by simpa using l, r⟩
theorem sideR (e : st[k]? = some (.lst ps)) (hkn : k ≠ n) (hp : ∀ d ∈ ps, Pr N M d) (hz : ps.length ≤ 1000) (hd : Dice st n) (hN : M ≤ 1000) : ∃ ls st', lcE [6] (range1I (varE 3)) (setT 6) [] (un1 tupleD (callE 2 F__law_mixed [(varE 0), colR])) [some (.ref n), some (.ref k), some (.int N), some (.int M), o4, o5, none, o7, o8] st = .ok (.tmp (.lst ls)) st' ∧ Aft n st st' ∧ ls.length = M ∧ Rw ps.length N ls := by
  have hn := hd.lt
  obtain ⟨ds, st', e1, a, l, r, _⟩ := lcE_inv (own := [6]) (it := range1I (varE 3)) (q := setT 6) (ts := []) (e := un1 tupleD (callE 2 F__law_mixed [(varE 0), colR])) (fr := [some (.ref n), some (.ref k), some (.int N), some (.int M), o4, o5, none, o7, o8]) (items := (List.range M).map fun i : Nat => D.int i) (st := st) (st1 := st)
    (fun rem acc s => Aft n st s ∧ acc.length + rem.length = M ∧ Rw ps.length N acc ∧ ∀ x ∈ rem, ∃ i : Nat, x = .int i) (range1_at rfl hN) ⟨.refl hd, by simp, (fun r hr => (List.not_mem_nil hr).elim), fun x hx => by
      obtain ⟨i, _, rfl⟩ := List.mem_map.mp hx
      exact ⟨i, rfl⟩⟩ (fun x xs acc s h => by
      obtain ⟨a, l, r, hi⟩ := h
      obtain ⟨i, rfl⟩ := hi x List.mem_cons_self
      have X1 : Nat1 ps.length N ((ps.filter fun d => isP i (p2 d)).map p1) := ⟨by rw [List.length_map]; exact List.length_filter_le _ _, fun y hy => by
        obtain ⟨d, hd, rfl⟩ := List.mem_map.mp hy
        obtain ⟨l, r, rfl, hl, _⟩ := hp d (List.mem_filter.mp hd).1
        exact ⟨l, rfl, hl⟩⟩
      obtain ⟨ys, s2, e2, a2, p⟩ := call_mixed (fr := [some (.ref n), some (.ref k), some (.int N), some (.int M), o4, o5, some (.int i), o7, o8]) (e := colR) rfl (colR_at (a.cell hkn e) hp) (a.dice hn) X1 hz
      have Y := X1.perm p
      refine ⟨_, s, rfl, true, s, rfl, nofun, fun _ => ⟨.tup ys, s2, .tup ys, s2, ?_, rfl, a.trans hn a2, ?_, ?_, fun x m => hi x (List.mem_cons_of_mem _ m)⟩⟩
      · rw [un1_app]
        refine (congrArg (fun r => R.bnd r tupleD) e2).trans ?_
        rfl
      · simp only [List.length_append, List.length_cons, List.length_nil] at l ⊢
        omega
      · intro d hd
        rcases List.mem_append.mp hd with hd | hd
        · exact r d hd
        · rw [List.mem_singleton.mp hd]
          exact ⟨ys, rfl, Y.1, Y.2⟩)
  exact ⟨ds, st', e1, a, by simpa using l, r⟩
theorem f_wishes_of (e : st[k]? = some (.lst ps)) (hkn : k ≠ n) (hp : ∀ d ∈ ps, Pr N M d) (hz : ps.length ≤ 1000) (hd : Dice st n) (hN : N ≤ 1000) (hM : M ≤ 1000) : ∃ d ls rs st', F__law_wishes_of [.ref n, .ref k, .int N, .int M] st = .ok d st' ∧ Rolled n st st' ∧ Wi ps.length N M d ls rs := by
  have hn := hd.lt
  obtain ⟨ls, s1, e1, a1, l1, r1⟩ := sideL (o4 := none) (o5 := none) (o7 := none) (o8 := none) e hkn hp hz hd hN
  have a1' := a1.grow [.lst ls]
  obtain ⟨rs, s2, e2, a2, l2, r2⟩ := sideR (o4 := some (.ref s1.length)) (o5 := none) (o7 := none) (o8 := none) (a1'.cell hkn e) hkn hp hz (a1'.dice hn) hM
  have c1 : s2[s1.length]? = some (.lst ls) := a2.cell (by have := a1.len; omega) cell_new
  have a3 := (a1'.trans hn a2).grow [.lst rs]
  have w : Wi ps.length N M (.tup [.tup ls, .tup rs]) ls rs := ⟨rfl, l1, l2, r1, r2⟩
  obtain ⟨st', e4, r4⟩ := fn_aft (N := 4) (m := 5) (body := B__law_wishes_of) (ds := [.ref n, .ref k, .int N, .int M]) (d := .tup [.tup ls, .tup rs]) (st := st) rfl (by
    refine (seq_nx (asg_new e1)).trans ?_
    refine (seq_nx (asg_new e2)).trans ?_
    have t1 := tuple_cell (cell_app (more := [Cell.lst rs]) c1)
    have t2 := tuple_cell (cell_new (st := s2) (c := .lst rs))
    exact ret_at (tup_two ((un_at rfl).trans t1) rfl ((un_at rfl).trans t2) rfl)) a3 w.low
  exact ⟨_, ls, rs, st', e4, r4, w⟩
end
end Law
set_option Elab.async false
set_option linter.all false
set_option maxRecDepth 100000
set_option maxHeartbeats 4000000
namespace Law
open PySem Ev
section
variable {n k N M B : Nat} {st st' : Sto}
theorem roll_at {t : Int} (h : Dice st n) (h1 : 0 < t) (h2 : t < 1073741824) : ∃ (r : Nat) (st' : Sto), F__law_roll [.ref n, .int t] st = .ok (.int r) st' ∧ Rolled n st st' ∧ (r : Int) < t := by
  obtain ⟨r, a, b, c, e, r0, r1⟩ := f_roll h h1 h2
  refine ⟨r.toNat, _, ?_, ⟨a, b, c, rfl⟩, by omega⟩
  rw [Int.toNat_of_nonneg r0]
  exact e
/-- a call of roll -/
theorem call_roll {e : Ex} {fr : Fr} {t : Int} (h0 : varE 0 fr st = .ok (.ref n) st) (he : e fr st = .ok (.int t) st) (h : Dice st n) (h1 : 0 < t) (h2 : t < 1073741824) : ∃ (r : Nat) (st' : Sto), callE 2 F__law_roll [varE 0, e] fr st = .ok (.int r) st' ∧ Rolled n st st' ∧ (r : Int) < t := by
  obtain ⟨r, s, e1, p⟩ := roll_at h h1 h2
  refine ⟨r, s, ?_, p⟩
  simp only [callE_app, allS_cons, allS_nil, h0, bnd_ok, settle_ref, bnd_app, he, settle_int, ret_app, List.length_cons, List.length_nil, Nat.zero_add, if_true, e1]
/-- a call of pick with a list in hand -/
theorem call_pick {e : Ex} {fr : Fr} {xs : List D} (h0 : varE 0 fr st = .ok (.ref n) st) (he : e fr st = .ok (.tmp (.lst xs)) st) (h : Dice st n) (h1 : 0 < xs.length) (h2 : xs.length ≤ 1000) (low : ∀ x ∈ xs, x.lower (st.length + 1) = true) : ∃ x ∈ xs, ∃ st' : Sto, callE 2 F__law_pick [varE 0, e] fr st = .ok x st' ∧ Aft n st st' := by
  have hn := h.lt
  have d2 : Dice (st ++ [.lst xs]) n := by
    obtain ⟨a, b, c, e⟩ := h
    exact ⟨a, b, c, cell_app e⟩
  obtain ⟨x, hx, a, b, c, e1⟩ := f_pick (k := st.length) d2 cell_new (by omega) h1 (by omega) (fun x hx => by rw [List.length_append]; exact low x hx)
  refine ⟨x, hx, _, ?_, ((Aft.refl h).grow [.lst xs]).roll hn ⟨a, b, c, rfl⟩⟩
  simp only [callE_app, allS_cons, allS_nil, h0, bnd_ok, settle_ref, bnd_app, he, settle_tmp, ret_app, List.length_cons, List.length_nil, Nat.zero_add, if_true, e1]
theorem Rw.mono {B B' m : Nat} {rows : List D} (h : Rw B m rows) (hB : B ≤ B') : Rw B' m rows := fun r hr => by
  obtain ⟨ys, e, l, p⟩ := h r hr
  exact ⟨ys, e, Nat.le_trans l hB, p⟩
theorem Wi.mono {B B' N M : Nat} {d : D} {ls rs : List D} (h : Wi B N M d ls rs) (hB : B ≤ B') : Wi B' N M d ls rs := ⟨h.eq, h.nl, h.nr, h.l.mono hB, h.r.mono hB⟩
/-- pairs in a cell behind -/
theorem wishes_new {ps : List D} (hp : ∀ d ∈ ps, Pr N M d) (hz : ps.length ≤ 1000) (hd : Dice st n) (hN : N ≤ 1000) (hM : M ≤ 1000) : ∃ d ls rs st', F__law_wishes_of [.ref n, .ref st.length, .int N, .int M] (st ++ [.lst ps]) = .ok d st' ∧ Aft n st st' ∧ Wi ps.length N M d ls rs := by
  have hn := hd.lt
  have a := (Aft.refl hd).grow [.lst ps]
  obtain ⟨d, ls, rs, s1, e1, r1, w⟩ := f_wishes_of (k := st.length) (cell_new (st := st) (c := .lst ps)) (by omega) hp hz (a.dice hn) hN hM
  exact ⟨d, ls, rs, s1, e1, a.roll hn r1, w⟩
theorem f_whole (hd : Dice st n) (hN : N ≤ 30) : ∃ d ls rs st', F__law_whole_wishes [.ref n, .int N] st = .ok d st' ∧ Rolled n st st' ∧ Wi (N * N) N N d ls rs := by
  obtain ⟨ps, e1, p, lz⟩ := f_grid (st := st) hN hN
  have zz : N * N ≤ 30 * 30 := Nat.mul_le_mul hN hN
  obtain ⟨d, ls, rs, s1, e2, a, w⟩ := wishes_new (n := n) p (by omega) hd (by omega) (by omega)
  rw [lz] at w
  obtain ⟨st', e3, r⟩ := fn_aft (N := 2) (m := 0) (body := B__law_whole_wishes) (ds := [.ref n, .int N]) (d := d) (st := st) rfl (by
    exact ret_at ((call4_new rfl rfl ((call2 rfl rfl rfl rfl).trans e1) rfl rfl rfl rfl).trans e2)) a w.low
  exact ⟨d, ls, rs, st', e3, r, w⟩
noncomputable abbrev cutE : Ex := lcE [5] (seqI (callE 2 F__law_grid [(varE 1), (varE 2)])) (setT 5) [(testE (bin2 (cmpD .Gt) (callE 2 F__law_roll [(varE 0), (bin2 addD (varE 3) (conE (.int 1)))]) (conE (.int 0))))] (varE 5)
theorem cut_at {p : Nat} {o4 : Option D} (hd : Dice st n) (hN : N ≤ 30) (hM : M ≤ 30) (h1 : 1 ≤ p) (h5 : p ≤ 5) : ∃ ps st', cutE [some (.ref n), some (.int N), some (.int M), some (.int p), o4, none] st = .ok (.tmp (.lst ps)) st' ∧ Aft n st st' ∧ (∀ d ∈ ps, Pr N M d) ∧ ps.length ≤ N * M := by
  have hn := hd.lt
  obtain ⟨G, e1, g, lz⟩ := f_grid (n := N) (m := M) (st := st) hN hM
  have it : (seqI (callE 2 F__law_grid [(varE 1), (varE 2)])) [some (.ref n), some (.int N), some (.int M), some (.int p), o4, none] st = .ok ⟨G, []⟩ st := by
    exact (seqI_at ((call2 rfl rfl rfl rfl).trans e1)).trans rfl
  obtain ⟨ds, st', e2, a, _, q, l⟩ := lcE_inv (own := [5]) (q := setT 5) (ts := [(testE (bin2 (cmpD .Gt) (callE 2 F__law_roll [(varE 0), (bin2 addD (varE 3) (conE (.int 1)))]) (conE (.int 0))))]) (e := varE 5)
    (fun rem acc s => Aft n st s ∧ (∀ d ∈ rem, Pr N M d) ∧ (∀ d ∈ acc, Pr N M d) ∧ acc.length + rem.length ≤ N * M) it ⟨.refl hd, g, (fun d hd => (List.not_mem_nil hd).elim), by simp [lz]⟩ (fun x xs acc s h => by
      obtain ⟨a, hr, ha, hl⟩ := h
      have hx := hr x List.mem_cons_self
      obtain ⟨l, r, rfl, _, _⟩ := id hx
      obtain ⟨t, s2, e3, r3, _⟩ := call_roll (fr := [some (.ref n), some (.int N), some (.int M), some (.int p), o4, some (.tup [.int l, .int r])]) (e := bin2 addD (varE 3) (conE (.int 1))) (t := (p : Int) + 1) rfl rfl (a.dice hn) (by omega) (by omega)
      simp only [List.length_cons] at hl
      refine ⟨_, s, rfl, decide ((0 : Int) < t), s2, allT_at ?_, fun _ => ⟨a.roll hn r3, fun d m => hr d (List.mem_cons_of_mem _ m), ha, by omega⟩, fun _ => ⟨_, s2, _, s2, rfl, rfl, a.roll hn r3, fun d m => hr d (List.mem_cons_of_mem _ m), ?_, ?_⟩⟩
      · exact test_at ((bin_at e3 rfl).trans rfl)
      · intro d hd
        rcases List.mem_append.mp hd with hd | hd
        · exact ha d hd
        · rw [List.mem_singleton.mp hd]
          exact hx
      · simp only [List.length_append, List.length_cons, List.length_nil]
        omega)
  exact ⟨ds, st', e2, a, q, by simpa using l⟩
theorem f_cut (hd : Dice st n) (hN : N ≤ 30) (hM : M ≤ 30) : ∃ d ls rs st', F__law_cut_wishes [.ref n, .int N, .int M] st = .ok d st' ∧ Rolled n st st' ∧ Wi (N * M) N M d ls rs := by
  have hn := hd.lt
  have zz : N * M ≤ 30 * 30 := Nat.mul_le_mul hN hM
  obtain ⟨x, hx, s1, e1, a1⟩ := call_pick (n := n) (st := st) (fr := [some (.ref n), some (.int N), some (.int M), none, none, none]) (e := lstE [(conE (.int 1)), (conE (.int 2)), (conE (.int 3)), (conE (.int 5))]) (xs := [.int 1, .int 2, .int 3, .int 5]) rfl rfl hd (by simp) (by simp) (by simp)
  have hx' : ∃ p : Nat, x = .int p ∧ 1 ≤ p ∧ p ≤ 5 := by
    simp only [List.mem_cons, List.not_mem_nil, or_false] at hx
    rcases hx with rfl | rfl | rfl | rfl
    · exact ⟨1, rfl, by omega, by omega⟩
    · exact ⟨2, rfl, by omega, by omega⟩
    · exact ⟨3, rfl, by omega, by omega⟩
    · exact ⟨5, rfl, by omega, by omega⟩
  obtain ⟨p, rfl, h1, h5⟩ := hx'
  obtain ⟨ps, s2, e2, a2, hp, lz⟩ := cut_at (o4 := none) (a1.dice hn) hN hM h1 h5
  have a12 := a1.trans hn a2
  obtain ⟨d, ls, rs, s3, e3, a3, w⟩ := wishes_new (n := n) hp (by omega) (a12.dice hn) (by omega) (by omega)
  obtain ⟨st', e4, r⟩ := fn_aft (N := 3) (m := 3) (body := B__law_cut_wishes) (ds := [.ref n, .int N, .int M]) (d := d) (st := st) rfl (by
    refine (seq_nx (asg_set e1 rfl)).trans ?_
    refine (seq_nx (asg_new e2)).trans ?_
    exact ret_at ((call4 rfl rfl rfl rfl rfl rfl rfl rfl).trans e3)) (a12.trans hn a3) w.low
  exact ⟨d, ls, rs, st', e4, r, w.mono lz⟩
end
end Law
set_option Elab.async false
set_option linter.all false
set_option maxRecDepth 100000
set_option maxHeartbeats 4000000
namespace Law
open PySem Ev
/-! ### rings -/
/-- a row cell of N whole numbers below N -/
def Rcell (N : Nat) (s : Sto) (k : Nat) : Prop := ∃ row, s[k]? = some (.lst row) ∧ row.length = N ∧ Nat1 N N row
theorem Rcell.app {N k : Nat} {s more : Sto} (h : Rcell N s k) : Rcell N (s ++ more) k := by
  obtain ⟨row, e, p⟩ := h
  exact ⟨row, cell_app e, p⟩
/-- row cells at or behind lo, none of them a or b -/
def Rc (N lo : Nat) (s : Sto) (xs : List D) : Prop := ∀ d ∈ xs, ∃ k, d = .ref k ∧ lo ≤ k ∧ Rcell N s k
theorem Rc.app {N lo : Nat} {s more : Sto} {xs : List D} (h : Rc N lo s xs) : Rc N lo (s ++ more) xs := fun d hd => by
  obtain ⟨k, e, l, p⟩ := h d hd
  exact ⟨k, e, l, p.app⟩
section
variable {n N : Nat} {st : Sto}
theorem modN {x : Int} (hN : 0 < N) : ∃ o : Nat, x.fmod N = o ∧ o < N := by
  have := fmod_range (i := x) (j := (N : Int)) (by omega)
  exact ⟨(x.fmod N).toNat, by omega, by omega⟩
/-- the inner rows -/
noncomputable abbrev ringE (a : Nat) (e : Ex) : Ex := lcE [a] (range1I (varE 1)) (setT a) [] (lcE [6] (range1I (varE 1)) (setT 6) [] (bin2 modD (bin2 addD e (varE 6)) (varE 1)))
theorem ringRow {e : Ex} {fr : Fr} {f : Int → Int} {s : Sto} (hN : 0 < N) (hz : N ≤ 30) (h1 : varE 1 fr s = .ok (.int N) s) (ev : ∀ i : Nat, (bin2 modD (bin2 addD e (varE 6)) (varE 1)) ((wipe fr [6]).set 6 (some (.int i))) s = .ok (.int ((f i).fmod N)) s) :
    ∃ row, lcE [6] (range1I (varE 1)) (setT 6) [] (bin2 modD (bin2 addD e (varE 6)) (varE 1)) fr s = .ok (.tmp (.lst row)) s ∧ row.length = N ∧ Nat1 N N row := by
  let g : D → D := fun y => match y with
    | .int i => .int ((f i).fmod N)
    | _ => .non
  have lc := lcE_map (own := [6]) (it := range1I (varE 1)) (q := setT 6) (e := bin2 modD (bin2 addD e (varE 6)) (varE 1)) (fr := fr) (st := s) (ns := []) (st1 := s) (items := (List.range N).map fun i : Nat => D.int i) (fr1 := fun y => (wipe fr [6]).set 6 (some y)) (g := g) (range1_at h1 (by omega)) (fun y hy => by
    obtain ⟨i, _, rfl⟩ := List.mem_map.mp hy
    exact setT_at rfl) (fun y hy => by
    obtain ⟨i, _, rfl⟩ := List.mem_map.mp hy
    exact ⟨ev i, rfl⟩)
  refine ⟨_, lc, by simp, by simp, fun y hy => ?_⟩
  obtain ⟨z, hz, rfl⟩ := List.mem_map.mp hy
  obtain ⟨i, _, rfl⟩ := List.mem_map.mp hz
  obtain ⟨o, e, p⟩ := modN (x := f i) hN
  exact ⟨o, congrArg D.int e, p⟩
theorem mod_at {x : Int} {s : Sto} (hN : 0 < N) : modD (.int x) (.int N) s = .ok (.int (x.fmod N)) s := mod_int (by omega)
theorem ringL {o2 o3 o4 o5 o6 o8 : Option D} (hd : Dice st n) (hN : 0 < N) (hz : N ≤ 30) : ∃ L st', ringE 7 (varE 7) [some (.ref n), some (.int N), o2, o3, o4, o5, o6, none, o8] st = .ok (.tmp (.lst L)) st' ∧ Aft n st st' ∧ L.length = N ∧ Rc N st.length st' L := by
  obtain ⟨ds, st', e1, a, l, r, _⟩ := lcE_inv (own := [7]) (it := range1I (varE 1)) (q := setT 7) (ts := []) (e := lcE [6] (range1I (varE 1)) (setT 6) [] (bin2 modD (bin2 addD (varE 7) (varE 6)) (varE 1))) (fr := [some (.ref n), some (.int N), o2, o3, o4, o5, o6, none, o8]) (items := (List.range N).map fun i : Nat => D.int i) (st := st) (st1 := st)
    (fun rem acc s => Aft n st s ∧ acc.length + rem.length = N ∧ Rc N st.length s acc ∧ ∀ x ∈ rem, ∃ i : Nat, x = .int i) (range1_at rfl (by omega)) ⟨.refl hd, by simp, (fun r hr => (List.not_mem_nil hr).elim), fun x hx => by
      obtain ⟨i, _, rfl⟩ := List.mem_map.mp hx
      exact ⟨i, rfl⟩⟩ (fun x xs acc s h => by
      obtain ⟨a, l, r, hi⟩ := h
      obtain ⟨i, rfl⟩ := hi x List.mem_cons_self
      obtain ⟨row, e2, l2, p2⟩ := ringRow (e := varE 7) (fr := [some (.ref n), some (.int N), o2, o3, o4, o5, o6, some (.int i), o8]) (f := fun y => (i : Int) + y) (s := s) hN hz rfl (fun y => by
        show modD (.int ((i : Int) + y)) (.int N) s = _
        exact mod_at hN)
      refine ⟨_, s, rfl, true, s, rfl, nofun, fun _ => ⟨_, s, _, _, e2, rfl, a.grow _, ?_, ?_, fun x m => hi x (List.mem_cons_of_mem _ m)⟩⟩
      · simp only [List.length_append, List.length_cons, List.length_nil] at l ⊢
        omega
      · intro d hd
        rcases List.mem_append.mp hd with hd | hd
        · exact r.app d hd
        · rw [List.mem_singleton.mp hd]
          exact ⟨_, rfl, a.len, row, cell_new, l2, p2⟩)
  exact ⟨ds, st', e1, a, by simpa using l, r⟩
theorem ringR {o2 o3 o4 o5 o6 o7 : Option D} (hd : Dice st n) (hN : 0 < N) (hz : N ≤ 30) : ∃ L st', ringE 8 (bin2 addD (varE 8) (conE (.int 1))) [some (.ref n), some (.int N), o2, o3, o4, o5, o6, o7, none] st = .ok (.tmp (.lst L)) st' ∧ Aft n st st' ∧ L.length = N ∧ Rc N st.length st' L := by
  obtain ⟨ds, st', e1, a, l, r, _⟩ := lcE_inv (own := [8]) (it := range1I (varE 1)) (q := setT 8) (ts := []) (e := lcE [6] (range1I (varE 1)) (setT 6) [] (bin2 modD (bin2 addD (bin2 addD (varE 8) (conE (.int 1))) (varE 6)) (varE 1))) (fr := [some (.ref n), some (.int N), o2, o3, o4, o5, o6, o7, none]) (items := (List.range N).map fun i : Nat => D.int i) (st := st) (st1 := st)
    (fun rem acc s => Aft n st s ∧ acc.length + rem.length = N ∧ Rc N st.length s acc ∧ ∀ x ∈ rem, ∃ i : Nat, x = .int i) (range1_at rfl (by omega)) ⟨.refl hd, by simp, (fun r hr => (List.not_mem_nil hr).elim), fun x hx => by
      obtain ⟨i, _, rfl⟩ := List.mem_map.mp hx
      exact ⟨i, rfl⟩⟩ (fun x xs acc s h => by
      obtain ⟨a, l, r, hi⟩ := h
      obtain ⟨i, rfl⟩ := hi x List.mem_cons_self
      obtain ⟨row, e2, l2, p2⟩ := ringRow (e := bin2 addD (varE 8) (conE (.int 1))) (fr := [some (.ref n), some (.int N), o2, o3, o4, o5, o6, o7, some (.int i)]) (f := fun y => (i : Int) + 1 + y) (s := s) hN hz rfl (fun y => by
        show modD (.int ((i : Int) + 1 + y)) (.int N) s = _
        exact mod_at hN)
      refine ⟨_, s, rfl, true, s, rfl, nofun, fun _ => ⟨_, s, _, _, e2, rfl, a.grow _, ?_, ?_, fun x m => hi x (List.mem_cons_of_mem _ m)⟩⟩
      · simp only [List.length_append, List.length_cons, List.length_nil] at l ⊢
        omega
      · intro d hd
        rcases List.mem_append.mp hd with hd | hd
        · exact r.app d hd
        · rw [List.mem_singleton.mp hd]
          exact ⟨_, rfl, a.len, row, cell_new, l2, p2⟩)
  exact ⟨ds, st', e1, a, by simpa using l, r⟩
/-! row[at], row[at - 1] = row[at - 1], row[at] -/
theorem atI_some {xs : List D} {k : Int} (h0 : -(xs.length : Int) ≤ k) (h1 : k < xs.length) : ∃ j, L2.ixN xs.length k = some j ∧ ∃ hj : j < xs.length, L2.atI xs k = some xs[j] := by
  have : ∃ j, L2.ixN xs.length k = some j ∧ j < xs.length := by
    unfold L2.ixN
    by_cases q : 0 ≤ k
    · rw [if_pos q, if_pos h1]
      exact ⟨_, rfl, by omega⟩
    · rw [if_neg q, if_pos (by omega)]
      exact ⟨_, rfl, by omega⟩
  obtain ⟨j, e, hj⟩ := this
  refine ⟨j, e, hj, ?_⟩
  unfold L2.atI
  simp [e, hj]
noncomputable abbrev swapS (i j : Nat) : S := asgS (tupT [(subT (varE i) (varE j)), (subT (varE i) (bin2 subD (varE j) (conE (.int 1))))]) (tupE [(bin2 ixD (varE i) (bin2 subD (varE j) (conE (.int 1)))), (bin2 ixD (varE i) (varE j))])
theorem swap_at {i j k at' : Nat} {fr : Fr} {s : Sto} {row : List D} (hi : varE i fr = fun st => .ok (.ref k) st) (hj : varE j fr = fun st => .ok (.int at') st) (hc : s[k]? = some (.lst row)) (hp : Nat1 N N row) (hl : row.length = N) (ha : at' < N) :
    ∃ row', swapS i j fr s = .ok (.nx fr) (s.set k (.lst row')) ∧ row'.length = N ∧ Nat1 N N row' := by
  have hk := cell_lt hc
  obtain ⟨j1, x1, hj1, a1⟩ := atI_some (xs := row) (k := (at' : Int)) (by omega) (by omega)
  obtain ⟨j2, x2, hj2, a2⟩ := atI_some (xs := row) (k := (at' : Int) - 1) (by omega) (by omega)
  have i1 : ixD (.ref k) (.int at') s = .ok row[j1] s := ix_cell hc a1
  have i2 : ixD (.ref k) (.int ((at' : Int) - 1)) s = .ok row[j2] s := ix_cell hc a2
  obtain ⟨v1, q1, _⟩ := hp.2 _ (List.getElem_mem hj1)
  obtain ⟨v2, q2, _⟩ := hp.2 _ (List.getElem_mem hj2)
  have s1 : setD (.ref k) (.int at') (.int v2) s = .ok () (s.set k (.lst (row.set j1 (.int v2)))) := set_cell (v := .int v2) hc x1
  have c2 : (s.set k (.lst (row.set j1 (.int v2))))[k]? = some (.lst (row.set j1 (.int v2))) := List.getElem?_set_self hk
  have s2 : setD (.ref k) (.int ((at' : Int) - 1)) (.int v1) (s.set k (.lst (row.set j1 (.int v2)))) = .ok () ((s.set k (.lst (row.set j1 (.int v2)))).set k (.lst ((row.set j1 (.int v2)).set j2 (.int v1)))) := set_cell (v := .int v1) c2 (by rw [List.length_set]; exact x2)
  rw [List.set_set] at s2
  rw [q1] at i1
  rw [q2] at i2
  refine ⟨(row.set j1 (.int v2)).set j2 (.int v1), ?_, by simp [hl], by simp [hl], fun y hy => ?_⟩
  · show ((tupE _ fr s).bnd _) = _
    have t : tupE [(bin2 ixD (varE i) (bin2 subD (varE j) (conE (.int 1)))), (bin2 ixD (varE i) (varE j))] fr s = .ok (.tup [.int v2, .int v1]) s := by
      simp only [tupE, bnd_app, allS_cons, allS_nil, bin2_app, hi, hj, bnd_ok, subD, conE_app, i1, i2, settle_int, ret_app]
    rw [t, bnd_ok]
    have u1 : subT (varE i) (varE j) (.int v2) fr s = .ok fr (s.set k (.lst (row.set j1 (.int v2)))) := by
      simp only [subT, bnd_app, settle_int, bnd_ok, hi, hj, s1, ret_app]
    have u2 : subT (varE i) (bin2 subD (varE j) (conE (.int 1))) (.int v1) fr (s.set k (.lst (row.set j1 (.int v2)))) = .ok fr (s.set k (.lst ((row.set j1 (.int v2)).set j2 (.int v1)))) := by
      simp only [subT, bnd_app, settle_int, bnd_ok, hi, hj, bin2_app, conE_app, subD, s2, ret_app]
    have u : tupT [(subT (varE i) (varE j)), (subT (varE i) (bin2 subD (varE j) (conE (.int 1))))] (.tup [.int v2, .int v1]) fr s = (subT (varE i) (varE j) (.int v2) fr s).bnd fun fr => bnd (subT (varE i) (bin2 subD (varE j) (conE (.int 1))) (.int v1) fr) fun fr => Ev.ret fr := rfl
    rw [bnd_app, u, u1, bnd_ok, bnd_app, u2]
    rfl
  · rcases List.mem_or_eq_of_mem_set hy with hy | rfl
    · rcases List.mem_or_eq_of_mem_set hy with hy | rfl
      · exact hp.2 y hy
      · obtain ⟨o, e, p⟩ := hp.2 _ (List.getElem_mem hj2)
        exact ⟨o, q2.symm.trans e, p⟩
    · obtain ⟨o, e, p⟩ := hp.2 _ (List.getElem_mem hj1)
      exact ⟨o, q1.symm.trans e, p⟩
end
end Law
set_option Elab.async false
set_option linter.all false
set_option maxRecDepth 100000
set_option maxHeartbeats 4000000
namespace Law
open PySem Ev
section
variable {n N : Nat} {st : Sto}
/-- what lies behind while rows are exchanged -/
structure Ring (n N : Nat) (st : Sto) (a b : Nat) (L R : List D) (s : Sto) : Prop where
  aft : Aft n st s
  l : s[a]? = some (.lst L)
  r : s[b]? = some (.lst R)
  rows : ∀ d ∈ L ++ R, ∃ k, d = .ref k ∧ st.length ≤ k ∧ k ≠ a ∧ k ≠ b ∧ Rcell N s k
theorem Rcell.aft {k : Nat} {s s' : Sto} (h : Rcell N s k) (a : Aft n s s') (hk : k ≠ n) : Rcell N s' k := by
  obtain ⟨row, e, p⟩ := h
  exact ⟨row, a.cell hk e, p⟩
theorem add_cells {s : Sto} {a b : Nat} {L R : List D} (h1 : s[a]? = some (.lst L)) (h2 : s[b]? = some (.lst R)) (hz : L.length + R.length ≤ 1000) : addD (.ref a) (.ref b) s = .ok (.tmp (.lst (L ++ R))) s := by
  show (match (s[a]?).map Cell.bare, (s[b]?).map Cell.bare with
    | some (.lst as), some (.lst bs) => if small (as.length + bs.length) = true then Ev.R.ok (D.tmp (.lst (as ++ bs))) s else Ev.R.stuck
    | _, _ => Ev.R.stuck) = _
  rw [h1, h2]
  exact if_pos (decide_eq_true (small_of hz))
abbrev rfr (n N a b : Nat) (o4 o5 o6 : Option D) : Fr := [some (.ref n), some (.int N), some (.ref a), some (.ref b), o4, o5, o6, none, none]
noncomputable abbrev ringB : S := (seqS (asgS (setT 5) (callE 2 F__law_pick [(varE 0), (bin2 addD (varE 2) (varE 3))]))
    (seqS (asgS (setT 6) (callE 2 F__law_roll [(varE 0), (varE 1)])) (swapS 5 6)))
theorem ring_step {a b : Nat} {L R : List D} {s : Sto} {o4 o5 o6 : Option D} (hn : n < st.length) (hN : 0 < N) (hz : N ≤ 30) (lL : L.length = N) (lR : R.length = N) (hab : st.length ≤ a ∧ st.length ≤ b) (h : Ring n N st a b L R s) :
    ∃ s' o5' o6', ringB (rfr n N a b o4 o5 o6) s = .ok (.nx (rfr n N a b o4 o5' o6')) s' ∧ Ring n N st a b L R s' := by
  obtain ⟨x, hx, s1, e1, a1⟩ := call_pick (fr := rfr n N a b o4 o5 o6) (e := bin2 addD (varE 2) (varE 3)) (xs := L ++ R) rfl (add_cells h.l h.r (by omega)) (h.aft.dice hn) (by rw [List.length_append]; omega) (by rw [List.length_append]; omega) (fun x hx => by
    obtain ⟨k, rfl, _, _, _, row, e, _⟩ := h.rows x hx
    have := cell_lt e
    exact decide_eq_true (by omega))
  obtain ⟨k, rfl, hk, ka, kb, rc⟩ := h.rows x hx
  have a01 := h.aft.trans hn a1
  obtain ⟨t, s2, e2, r2, lt⟩ := call_roll (fr := rfr n N a b o4 (some (.ref k)) o6) (e := varE 1) (t := (N : Int)) rfl rfl (a01.dice hn) (by omega) (by omega)
  have a02 := a01.roll hn r2
  have a12 : Aft n s s2 := a1.roll (by have := h.aft.len; omega) r2
  obtain ⟨row, c2, l2, p2⟩ := rc.aft a12 (by omega)
  obtain ⟨row', e3, l3, p3⟩ := swap_at (N := N) (i := 5) (j := 6) (k := k) (at' := t) (fr := rfr n N a b o4 (some (.ref k)) (some (.int t))) rfl rfl c2 p2 l2 (by omega)
  have hlt := cell_lt c2
  refine ⟨s2.set k (.lst row'), some (.ref k), some (.int t), ?_, a02.set hk _, ?_, ?_, fun d hd => ?_⟩
  · refine (seq_nx (asg_set e1 rfl)).trans ?_
    refine (seq_nx (asg_set e2 rfl)).trans ?_
    exact e3
  · rw [List.getElem?_set_ne ka]
    exact a12.cell (by omega) h.l
  · rw [List.getElem?_set_ne kb]
    exact a12.cell (by omega) h.r
  · obtain ⟨k', rfl, hk', ka', kb', rc'⟩ := h.rows d hd
    refine ⟨k', rfl, hk', ka', kb', ?_⟩
    by_cases q : k' = k
    · subst q
      exact ⟨row', List.getElem?_set_self hlt, l3, p3⟩
    · obtain ⟨row2, c3, p4⟩ := rc'.aft a12 (by omega)
      exact ⟨row2, by rw [List.getElem?_set_ne (Ne.symm q)]; exact c3, p4⟩
/-- the row of a cell as a tuple -/
def rowOf (s : Sto) (d : D) : D := match d with
  | .ref k => match s[k]? with
    | some (.lst row) => .tup row
    | _ => .non
  | _ => .non
theorem rows_out {a i : Nat} {L : List D} {s : Sto} {fr : Fr} (hv : varE i fr s = .ok (.ref a) s) (ha : s[a]? = some (.lst L)) (hr : ∀ d ∈ L, ∃ k, d = .ref k ∧ k ≠ a ∧ Rcell N s k) (h5 : 5 < fr.length) : lcE [5] (seqI (varE i)) (setT 5) [] (un1 tupleD (varE 5)) fr s = .ok (.tmp (.lst (L.map (rowOf s)))) s ∧ Rw N N (L.map (rowOf s)) := by
  constructor
  · have := lcE_map (own := [5]) (it := seqI (varE i)) (q := setT 5) (e := un1 tupleD (varE 5)) (fr := fr) (st := s) (ns := [a]) (st1 := s.set a (.lck (.lst L))) (items := L) (fr1 := fun d => (wipe fr [5]).set 5 (some d)) (g := rowOf s) (by
      show (varE i fr s).bnd srcOf = _
      rw [hv, bnd_ok]
      exact src_cell ha) (fun d hd => by
      obtain ⟨k, rfl, _, _⟩ := hr d hd
      rfl) (fun d hd => by
      obtain ⟨k, rfl, ka, row, e, _⟩ := hr d hd
      have v5 : varE 5 ((wipe fr [5]).set 5 (some (.ref k))) (s.set a (.lck (.lst L))) = .ok (.ref k) (s.set a (.lck (.lst L))) := by
        refine varE_at ?_
        rw [List.getElem?_set_self (by simpa [wipe] using h5)]
      have e2 : (s.set a (.lck (.lst L)))[k]? = some (.lst row) := by
        rw [List.getElem?_set_ne (Ne.symm ka)]
        exact e
      have g : rowOf s (.ref k) = .tup row := by
        show (match s[k]? with
          | some (.lst row) => D.tup row
          | _ => .non) = _
        rw [e]
      rw [un1_app, v5, bnd_ok, tuple_cell e2, g]
      exact ⟨rfl, rfl⟩)
    rw [unlock_cell ha] at this
    exact this
  · intro r hr'
    obtain ⟨d, hd, rfl⟩ := List.mem_map.mp hr'
    obtain ⟨k, rfl, ka, row, e, l, p⟩ := hr d hd
    refine ⟨row, ?_, p⟩
    show (match s[k]? with
      | some (.lst row) => D.tup row
      | _ => .non) = _
    rw [e]
theorem f_ring (hd : Dice st n) (hN : 0 < N) (hz : N ≤ 30) : ∃ d ls rs st', F__law_ring_wishes [.ref n, .int N] st = .ok d st' ∧ Rolled n st st' ∧ Wi N N N d ls rs := by
  have hn := hd.lt
  obtain ⟨L, s1, e1, a1, lL, rL⟩ := ringL (o2 := none) (o3 := none) (o4 := none) (o5 := none) (o6 := none) (o8 := none) hd hN hz
  have a1' := a1.grow [.lst L]
  obtain ⟨R, s2, e2, a2, lR, rR⟩ := ringR (o2 := some (.ref s1.length)) (o3 := none) (o4 := none) (o5 := none) (o6 := none) (o7 := none) (a1'.dice hn) hN hz
  have a2' := (a1'.trans hn a2).grow [.lst R]
  have z1 : st.length ≤ s1.length := a1.len
  have z2 : s1.length + 1 ≤ s2.length := by have := a2.len; rw [List.length_append] at this; exact this
  have J : Ring n N st s1.length s2.length L R (s2 ++ [.lst R]) := ⟨a2', cell_app (a2.cell (by omega) cell_new), cell_new, fun d hd => by
    rcases List.mem_append.mp hd with hd | hd
    · obtain ⟨k, rfl, hk, rc⟩ := rL d hd
      have : k < s1.length := cell_lt rc.choose_spec.1
      exact ⟨k, rfl, hk, by omega, by omega, ((rc.app (more := [.lst L])).aft a2 (by omega)).app⟩
    · obtain ⟨k, rfl, hk, rc⟩ := rR d hd
      have q : k < s2.length := cell_lt rc.choose_spec.1
      have hk : s1.length + 1 ≤ k := by rw [List.length_append] at hk; exact hk
      exact ⟨k, rfl, by omega, by omega, by omega, rc.app⟩⟩
  obtain ⟨t, s3, e3, r3, lt⟩ := call_roll (fr := rfr n N s1.length s2.length none none none) (e := conE (.int 3)) (t := 3) rfl rfl (J.aft.dice hn) (by omega) (by omega)
  have J3 : Ring n N st s1.length s2.length L R s3 := ⟨J.aft.roll hn r3, r3.cell (by omega) J.l, r3.cell (by omega) J.r, fun d hd => by
    obtain ⟨k, e, hk, ka, kb, rc⟩ := J.rows d hd
    exact ⟨k, e, hk, ka, kb, rc.aft (.of r3) (by omega)⟩⟩
  obtain ⟨f, s4, e4, ⟨o4, o5, o6, rfl⟩, J4⟩ := loop_ok (q := setT 4) (body := ringB) (fun xs fr s => (∀ x ∈ xs, x.kept = true) ∧ (∃ o4 o5 o6, fr = rfr n N s1.length s2.length o4 o5 o6) ∧ Ring n N st s1.length s2.length L R s) (P := fun f s => (∃ o4 o5 o6, f = .nx (rfr n N s1.length s2.length o4 o5 o6)) ∧ Ring n N st s1.length s2.length L R s) (fun x xs fr s ⟨hk, ⟨o4, o5, o6, hf⟩, J⟩ => by
      subst hf
      obtain ⟨s', o5', o6', e, J'⟩ := ring_step (o4 := some x) (o5 := o5) (o6 := o6) hn hN hz lL lR ⟨z1, by omega⟩ J
      exact ⟨_, s, setT_at (hk x List.mem_cons_self), _, s', e, fun y m => hk y (List.mem_cons_of_mem _ m), ⟨_, _, _, rfl⟩, J'⟩) (fun fr s ⟨_, ⟨o4, o5, o6, hf⟩, J⟩ => ⟨⟨o4, o5, o6, congrArg Fl.nx hf⟩, J⟩) ((List.range t).map fun i : Nat => D.int i) (rfr n N s1.length s2.length none none none) s3 ⟨fun x hx => by
      obtain ⟨i, _, rfl⟩ := List.mem_map.mp hx
      rfl, ⟨_, _, _, rfl⟩, J3⟩
  have fo := forS_ok (it := range1I (callE 2 F__law_roll [(varE 0), (conE (.int 3))])) (q := setT 4) (body := ringB) (range1_at e3 (by omega)) e4
  rw [unlocks_nil] at fo
  obtain ⟨x1, w1⟩ := rows_out (N := N) (i := 2) (a := s1.length) (L := L) (s := s4) (fr := rfr n N s1.length s2.length o4 o5 o6) rfl J4.l (fun d hd => by
    obtain ⟨k, e, _, ka, _, rc⟩ := J4.rows d (List.mem_append_left _ hd)
    exact ⟨k, e, ka, rc⟩) (by simp [rfr])
  obtain ⟨x2, w2⟩ := rows_out (N := N) (i := 3) (a := s2.length) (L := R) (s := s4) (fr := rfr n N s1.length s2.length o4 o5 o6) rfl J4.r (fun d hd => by
    obtain ⟨k, e, _, _, kb, rc⟩ := J4.rows d (List.mem_append_right _ hd)
    exact ⟨k, e, kb, rc⟩) (by simp [rfr])
  have w : Wi N N N (.tup [.tup (L.map (rowOf s4)), .tup (R.map (rowOf s4))]) (L.map (rowOf s4)) (R.map (rowOf s4)) := ⟨rfl, by rw [List.length_map, lL], by rw [List.length_map, lR], w1, w2⟩
  obtain ⟨st', e5, r5⟩ := fn_aft (N := 2) (m := 7) (body := B__law_ring_wishes) (ds := [.ref n, .int N]) (st := st) rfl (by
    refine (seq_nx (asg_new e1)).trans ?_
    refine (seq_nx (asg_new e2)).trans ?_
    refine (seq_nx fo).trans ?_
    exact ret_at (tup_two ((un_at x1).trans rfl) rfl ((un_at x2).trans rfl) rfl)) J4.aft w.low
  exact ⟨_, _, _, st', e5, r5, w⟩
end
end Law
set_option Elab.async false
set_option linter.all false
set_option maxRecDepth 100000
set_option maxHeartbeats 4000000
namespace Law
open PySem Ev
def shiftD (m : Nat) (y : D) : D := match y with
  | .int o => .int (o + m)
  | _ => .non
def shiftR (m : Nat) (row : D) : D := match row with
  | .tup ys => .tup (ys.map (shiftD m))
  | _ => .non
theorem Rw.shift {B m m' : Nat} {rows : List D} (h : Rw B m rows) : Rw B (m' + m) (rows.map (shiftR m')) := fun r hr => by
  obtain ⟨r', hr', rfl⟩ := List.mem_map.mp hr
  obtain ⟨ys, rfl, l, hy⟩ := h r' hr'
  refine ⟨_, rfl, by rw [List.length_map]; exact l, fun y hy' => ?_⟩
  obtain ⟨y', hy2, rfl⟩ := List.mem_map.mp hy'
  obtain ⟨o, rfl, ho⟩ := hy y' hy2
  exact ⟨o + m', by show D.int _ = _; congr 1, by omega⟩
theorem Rw.more {B m m' : Nat} {rows : List D} (h : Rw B m rows) (hm : m ≤ m') : Rw B m' rows := fun r hr => by
  obtain ⟨ys, e, l, hy⟩ := h r hr
  exact ⟨ys, e, l, fun y q => by
    obtain ⟨o, e, ho⟩ := hy y q
    exact ⟨o, e, by omega⟩⟩
theorem Rw.append {B m : Nat} {xs ys : List D} (h : Rw B m xs) (k : Rw B m ys) : Rw B m (xs ++ ys) := fun r hr => by
  rcases List.mem_append.mp hr with hr | hr
  · exact h r hr
  · exact k r hr
theorem add_tup {xs ys : List D} {st : Sto} (hz : xs.length + ys.length ≤ 1000) : addD (.tup xs) (.tup ys) st = .ok (.tup (xs ++ ys)) st := by
  cases xs with
  | nil => rfl
  | cons x xs => exact if_pos (decide_eq_true (small_of hz))
section
variable {B N M N' M' : Nat} {one other : D} {ls rs ls' rs' : List D} {st : Sto}
theorem bes1 {o4 o5 o6 o7 : Option D} (h : Rw B M' ls') {X : D} : lcE [5] (seqI (bin2 ixD (varE 1) (conE (.int 0)))) (setT 5) [] (un1 tupleD (lcE [6] (seqI (varE 5)) (setT 6) [] (bin2 addD (varE 6) (varE 3)))) [some X, some (.tup [.tup ls', .tup rs']), some (.int N), some (.int M), o4, o5, o6, o7] st = .ok (.tmp (.lst (ls'.map (shiftR M)))) st := by
  refine lcE_map (ns := []) (st1 := st) (fr1 := fun row => [some X, some (.tup [.tup ls', .tup rs']), some (.int N), some (.int M), o4, some row, o6, o7]) rfl (fun row hr => ?_) (fun row hr => ?_)
  · obtain ⟨ys, rfl, _, _⟩ := h row hr
    rfl
  · obtain ⟨ys, rfl, _, hy⟩ := h row hr
    have lc : lcE [6] (seqI (varE 5)) (setT 6) [] (bin2 addD (varE 6) (varE 3)) [some X, some (.tup [.tup ls', .tup rs']), some (.int N), some (.int M), o4, some (.tup ys), o6, o7] st = .ok (.tmp (.lst (ys.map (shiftD M)))) st := by
      refine lcE_map (ns := []) (st1 := st) (fr1 := fun y => [some X, some (.tup [.tup ls', .tup rs']), some (.int N), some (.int M), o4, some (.tup ys), some y, o7]) rfl (fun y m => ?_) (fun y m => ?_)
      · obtain ⟨o, rfl, _⟩ := hy y m
        rfl
      · obtain ⟨o, rfl, _⟩ := hy y m
        exact ⟨rfl, rfl⟩
    rw [un1_app, lc]
    exact ⟨rfl, rfl⟩
theorem bes2 {o4 o5 o6 o7 : Option D} (h : Rw B N' rs') {X : D} : lcE [5] (seqI (bin2 ixD (varE 1) (conE (.int 1)))) (setT 5) [] (un1 tupleD (lcE [7] (seqI (varE 5)) (setT 7) [] (bin2 addD (varE 7) (varE 2)))) [some X, some (.tup [.tup ls', .tup rs']), some (.int N), some (.int M), o4, o5, o6, o7] st = .ok (.tmp (.lst (rs'.map (shiftR N)))) st := by
  refine lcE_map (ns := []) (st1 := st) (fr1 := fun row => [some X, some (.tup [.tup ls', .tup rs']), some (.int N), some (.int M), o4, some row, o6, o7]) rfl (fun row hr => ?_) (fun row hr => ?_)
  · obtain ⟨ys, rfl, _, _⟩ := h row hr
    rfl
  · obtain ⟨ys, rfl, _, hy⟩ := h row hr
    have lc : lcE [7] (seqI (varE 5)) (setT 7) [] (bin2 addD (varE 7) (varE 2)) [some X, some (.tup [.tup ls', .tup rs']), some (.int N), some (.int M), o4, some (.tup ys), o6, o7] st = .ok (.tmp (.lst (ys.map (shiftD N)))) st := by
      refine lcE_map (ns := []) (st1 := st) (fr1 := fun y => [some X, some (.tup [.tup ls', .tup rs']), some (.int N), some (.int M), o4, some (.tup ys), o6, some y]) rfl (fun y m => ?_) (fun y m => ?_)
      · obtain ⟨o, rfl, _⟩ := hy y m
        rfl
      · obtain ⟨o, rfl, _⟩ := hy y m
        exact ⟨rfl, rfl⟩
    rw [un1_app, lc]
    exact ⟨rfl, rfl⟩
theorem f_beside (h : Wi B N M one ls rs) (k : Wi B N' M' other ls' rs') (z1 : N + N' ≤ 30) (z2 : M + M' ≤ 30) : ∃ d ls2 rs2, F__law_beside [one, other] st = .ok d st ∧ Wi B (N + N') (M + M') d ls2 rs2 := by
  have e1 := bes1 (N := N) (M := M) (X := one) (rs' := rs') (st := st) (o4 := none) (o5 := none) (o6 := none) (o7 := none) k.l
  have e2 := bes2 (N := N) (M := M) (X := one) (ls' := ls') (st := st) (o4 := some (.tup (ls'.map (shiftR M)))) (o5 := none) (o6 := none) (o7 := none) k.r
  have w : Wi B (N + N') (M + M') (.tup [.tup (ls ++ ls'.map (shiftR M)), .tup (rs ++ rs'.map (shiftR N))]) (ls ++ ls'.map (shiftR M)) (rs ++ rs'.map (shiftR N)) := ⟨rfl, by simp [h.nl, k.nl], by simp [h.nr, k.nr], (h.l.more (by omega)).append k.l.shift, (h.r.more (by omega)).append k.r.shift⟩
  refine ⟨_, _, _, ?_, w⟩
  have eb : B__law_beside ([one, other].map some ++ List.replicate 6 none) st = .ok (.rt (.tup [.tup (ls ++ ls'.map (shiftR M)), .tup (rs ++ rs'.map (shiftR N))])) st := by
    have q1 := h.eq
    subst q1
    have q2 := k.eq
    subst q2
    have a1 : (asgS (tupT [(setT 2), (setT 3)]) (tupE [(un1 lenD (bin2 ixD (varE 0) (conE (.int 0)))), (un1 lenD (bin2 ixD (varE 0) (conE (.int 1))))])) [some (.tup [.tup ls, .tup rs]), some (.tup [.tup ls', .tup rs']), none, none, none, none, none, none] st = .ok (.nx [some (.tup [.tup ls, .tup rs]), some (.tup [.tup ls', .tup rs']), some (.int N), some (.int M), none, none, none, none]) st := by
      rw [← h.nl, ← h.nr]
      rfl
    have t1 : ∀ xs : List D, tupleD (.tmp (.lst xs)) st = .ok (.tup xs) st := fun _ => rfl
    refine (seq_nx a1).trans ?_
    refine (seq_nx (asg_set ((un_at e1).trans (t1 _)) rfl)).trans ?_
    have i0 : ixD (.tup [.tup ls, .tup rs]) (.int 0) st = .ok (.tup ls) st := rfl
    have i1 : ixD (.tup [.tup ls, .tup rs]) (.int 1) st = .ok (.tup rs) st := rfl
    have p1 : addD (.tup ls) (.tup (ls'.map (shiftR M))) st = .ok (.tup (ls ++ ls'.map (shiftR M))) st := add_tup (by rw [List.length_map, h.nl, k.nl]; omega)
    have p2 : addD (.tup rs) (.tup (rs'.map (shiftR N))) st = .ok (.tup (rs ++ rs'.map (shiftR N))) st := add_tup (by rw [List.length_map, h.nr, k.nr]; omega)
    exact ret_at (tup_two ((bin_at i0 rfl).trans p1) rfl ((bin_at i1 ((un_at e2).trans (t1 _))).trans p2) rfl)
  exact (fnD_ok (n := 2) (m := 6) rfl eb).trans (sweep_same w.low)
end
end Law
set_option Elab.async false
set_option linter.all false
set_option maxRecDepth 100000
set_option maxHeartbeats 4000000
namespace Law
open PySem Ev
theorem asg_sub {o i e : Ex} {fr : Fr} {s s1 s2 s3 s4 : Sto} {d x k : D} (he : e fr s = .ok d s1) (hd : d.kept = true) (ho : o fr s1 = .ok x s2) (hi : i fr s2 = .ok k s3) (hs : setD x k d s3 = .ok () s4) : asgS (subT o i) e fr s = .ok (.nx fr) s4 := by
  simp only [asgS_app, he, bnd_ok, subT, bnd_app, settle_kept hd, ho, hi, hs, ret_app]
/-- 0 .. N - 1 -/
def upto (N : Nat) : List D := (List.range N).map fun i : Nat => D.int (0 + (i : Int))
theorem upto_len {N : Nat} : (upto N).length = N := by simp [upto]
theorem upto_nat {N : Nat} : Nat1 N N (upto N) := ⟨by rw [upto_len]; exact Nat.le_refl _, fun y hy => by
  obtain ⟨i, hi, rfl⟩ := List.mem_map.mp hy
  exact ⟨i, by show D.int _ = _; congr 1; omega, List.mem_range.mp hi⟩⟩
theorem range_at {N : Nat} {st : Sto} (hN : N ≤ 1000) : listRange (.int 0) (.int N) st = .ok (.tmp (.lst (upto N))) st := by
  have e : ((N : Int) - 0).toNat = N := by omega
  have c : (small ((N : Int) - 0).toNat && decide (-(2 ^ 62) ≤ (0 : Int) ∧ (0 : Int) < 2 ^ 62 ∧ -(2 ^ 62) ≤ (N : Int) ∧ (N : Int) < 2 ^ 62)) = true := by
    rw [e, Bool.and_eq_true]
    exact ⟨decide_eq_true (small_of hN), decide_eq_true ⟨by decide, by decide, by omega, by omega⟩⟩
  unfold listRange
  refine (if_pos c).trans ?_
  rw [e]
  rfl
theorem rep_flat {x : D} : ∀ N : Nat, (List.replicate N [x]).flatten = List.replicate N x
  | 0 => rfl
  | N + 1 => by rw [List.replicate_succ, List.flatten_cons, rep_flat N, List.replicate_succ]; rfl
theorem rep_at {N : Nat} {st : Sto} (hN : N ≤ 1000) : mulD (.tmp (.lst [.tup []])) (.int N) st = .ok (.tmp (.lst (List.replicate N (.tup [])))) st := by
  have c : (decide (-(2 ^ 63) ≤ (N : Int) ∧ (N : Int) < 2 ^ 63) && small (([D.tup []] : List D).length * ((N : Int)).toNat)) = true := by
    rw [Bool.and_eq_true]
    refine ⟨decide_eq_true ⟨by omega, by omega⟩, decide_eq_true (small_of ?_)⟩
    rw [Int.toNat_natCast, List.length_singleton, Nat.one_mul]
    exact hN
  unfold mulD
  refine (if_pos c).trans ?_
  rw [Int.toNat_natCast, rep_flat]
theorem rep_rw {B m N : Nat} : Rw B m (List.replicate N (.tup [])) := fun r hr => by
  obtain ⟨_, rfl⟩ := List.mem_replicate.mp hr
  exact ⟨[], rfl, Nat.zero_le _, fun y hy => (List.not_mem_nil hy).elim⟩
/-- the entry that a number tells -/
def pickD (T : List D) (y : D) : D := match y with
  | .int o => T.getD o.toNat .non
  | _ => .non
theorem nat_at {m : Nat} {T : List D} {st : Sto} {b o : Nat} (hb : st[b]? = some (.lst T)) (hT : ∀ y ∈ T, ∃ o : Nat, y = .int o ∧ o < m) (ho : o < T.length) : ∃ v : Nat, ixD (.ref b) (.int o) st = .ok (.int v) st ∧ v < m ∧ pickD T (.int o) = .int v := by
  obtain ⟨v, e, hv⟩ := hT _ (List.getElem_mem ho)
  have a : L2.atI T ((o : Nat) : Int) = some (.int v) := by
    unfold L2.atI L2.ixN
    rw [if_pos (by omega)]
    simp [ho, e]
  refine ⟨v, ix_cell hb a, hv, ?_⟩
  show T.getD ((o : Nat) : Int).toNat .non = _
  rw [Int.toNat_natCast, List.getD_eq_getElem?_getD, List.getElem?_eq_getElem ho]
  exact e
theorem row_pick {B m M : Nat} {T ys : List D} (hT : ∀ y ∈ T, ∃ o : Nat, y = .int o ∧ o < m) (l : T.length = M) (h : Nat1 B M ys) : Nat1 B m (ys.map (pickD T)) := ⟨by rw [List.length_map]; exact h.1, fun y hy => by
  obtain ⟨y', hy', rfl⟩ := List.mem_map.mp hy
  obtain ⟨o, rfl, ho⟩ := h.2 y' hy'
  have ho : o < T.length := by omega
  obtain ⟨v, e, hv⟩ := hT _ (List.getElem_mem ho)
  refine ⟨v, ?_, hv⟩
  show T.getD ((o : Nat) : Int).toNat .non = _
  rw [Int.toNat_natCast, List.getD_eq_getElem?_getD, List.getElem?_eq_getElem ho]
  exact e⟩
section
variable {n N M B : Nat} {st : Sto}
structure Ren (B n N M : Nat) (st : Sto) (a b c d : Nat) (S T X Y : List D) (s : Sto) : Prop where
  aft : Aft n st s
  a : s[a]? = some (.lst S)
  b : s[b]? = some (.lst T)
  c : s[c]? = some (.lst X)
  d : s[d]? = some (.lst Y)
  lX : X.length = N
  lY : Y.length = M
  X : Rw B M X
  Y : Rw B N Y
abbrev nfr (n a b c d : Nat) (w l r : D) (o8 o9 o10 : Option D) : Fr := [some (.ref n), some w, some l, some r, some (.ref a), some (.ref b), some (.ref c), some (.ref d), o8, o9, o10]
noncomputable abbrev renL : S := (asgS (subT (varE 6) (bin2 ixD (varE 4) (varE 8))) (un1 tupleD (lcE [10] (seqI (varE 9)) (setT 10) [] (bin2 ixD (varE 5) (varE 10)))))
noncomputable abbrev renR : S := (asgS (subT (varE 7) (bin2 ixD (varE 5) (varE 10))) (un1 tupleD (lcE [8] (seqI (varE 9)) (setT 8) [] (bin2 ixD (varE 4) (varE 8)))))
theorem set_rw {B m j : Nat} {X ys : List D} (h : Rw B m X) (y : Nat1 B m ys) : Rw B m (X.set j (.tup ys)) := fun r hr => by
  rcases List.mem_or_eq_of_mem_set hr with hr | rfl
  · exact h r hr
  · exact ⟨ys, rfl, y.1, y.2⟩
theorem ixN_nat {v z : Nat} (h : v < z) : L2.ixN z ((v : Nat) : Int) = some v := by
  unfold L2.ixN
  rw [if_pos (by omega), if_pos (by omega), Int.toNat_natCast]
theorem renL_at {a b c d i : Nat} {S T X Y ys : List D} {w l r : D} {o10 : Option D} {s : Sto} (h : Ren B n N M st a b c d S T X Y s) (hc : st.length ≤ c) (ca : c ≠ a) (cb : c ≠ b) (cd : c ≠ d) (lS : S.length = N) (hS : Nat1 N N S) (lT : T.length = M) (hT : Nat1 M M T) (hi : i < N) (hy : Nat1 B M ys) :
    ∃ X' s', renL (nfr n a b c d w l r (some (.int i)) (some (.tup ys)) o10) s = .ok (.nx (nfr n a b c d w l r (some (.int i)) (some (.tup ys)) o10)) s' ∧ Ren B n N M st a b c d S T X' Y s' := by
  obtain ⟨v, ev, hv, _⟩ := nat_at h.a hS.2 (o := i) (by omega)
  have lc : lcE [10] (seqI (varE 9)) (setT 10) [] (bin2 ixD (varE 5) (varE 10)) (nfr n a b c d w l r (some (.int i)) (some (.tup ys)) o10) s = .ok (.tmp (.lst (ys.map (pickD T)))) s := by
    refine lcE_map (ns := []) (st1 := s) (fr1 := fun y => nfr n a b c d w l r (some (.int i)) (some (.tup ys)) (some y)) rfl (fun y m => ?_) (fun y m => ?_)
    · obtain ⟨o, rfl, _⟩ := hy.2 y m
      rfl
    · obtain ⟨o, rfl, ho⟩ := hy.2 y m
      obtain ⟨u, e, _, p⟩ := nat_at h.b hT.2 (o := o) (by omega)
      rw [p]
      exact ⟨e, rfl⟩
  have sd : setD (.ref c) (.int v) (.tup (ys.map (pickD T))) s = .ok () (s.set c (.lst (X.set v (.tup (ys.map (pickD T)))))) := set_cell h.c (by rw [h.lX]; exact ixN_nat hv)
  refine ⟨X.set v (.tup (ys.map (pickD T))), _, ?_, h.aft.set hc _, ?_, ?_, List.getElem?_set_self (cell_lt h.c), ?_, by rw [List.length_set]; exact h.lX, h.lY, set_rw h.X (row_pick hT.2 lT hy), h.Y⟩
  · have t1 : ∀ xs : List D, tupleD (.tmp (.lst xs)) s = .ok (.tup xs) s := fun _ => rfl
    exact asg_sub ((un_at lc).trans (t1 _)) rfl rfl ((bin_at rfl rfl).trans ev) sd
  · rw [List.getElem?_set_ne ca]
    exact h.a
  · rw [List.getElem?_set_ne cb]
    exact h.b
  · rw [List.getElem?_set_ne cd]
    exact h.d
theorem renR_at {a b c d i : Nat} {S T X Y ys : List D} {w l r : D} {o8 : Option D} {s : Sto} (h : Ren B n N M st a b c d S T X Y s) (hc : st.length ≤ d) (da : d ≠ a) (db : d ≠ b) (dc : d ≠ c) (lS : S.length = N) (hS : Nat1 N N S) (lT : T.length = M) (hT : Nat1 M M T) (hi : i < M) (hy : Nat1 B N ys) :
    ∃ Y' s', renR (nfr n a b c d w l r o8 (some (.tup ys)) (some (.int i))) s = .ok (.nx (nfr n a b c d w l r o8 (some (.tup ys)) (some (.int i)))) s' ∧ Ren B n N M st a b c d S T X Y' s' := by
  obtain ⟨v, ev, hv, _⟩ := nat_at h.b hT.2 (o := i) (by omega)
  have lc : lcE [8] (seqI (varE 9)) (setT 8) [] (bin2 ixD (varE 4) (varE 8)) (nfr n a b c d w l r o8 (some (.tup ys)) (some (.int i))) s = .ok (.tmp (.lst (ys.map (pickD S)))) s := by
    refine lcE_map (ns := []) (st1 := s) (fr1 := fun y => nfr n a b c d w l r (some y) (some (.tup ys)) (some (.int i))) rfl (fun y m => ?_) (fun y m => ?_)
    · obtain ⟨o, rfl, _⟩ := hy.2 y m
      rfl
    · obtain ⟨o, rfl, ho⟩ := hy.2 y m
      obtain ⟨u, e, _, p⟩ := nat_at h.a hS.2 (o := o) (by omega)
      rw [p]
      exact ⟨e, rfl⟩
  have sd : setD (.ref d) (.int v) (.tup (ys.map (pickD S))) s = .ok () (s.set d (.lst (Y.set v (.tup (ys.map (pickD S)))))) := set_cell h.d (by rw [h.lY]; exact ixN_nat hv)
  refine ⟨Y.set v (.tup (ys.map (pickD S))), _, ?_, h.aft.set hc _, ?_, ?_, ?_, List.getElem?_set_self (cell_lt h.d), h.lX, by rw [List.length_set]; exact h.lY, h.X, set_rw h.Y (row_pick hS.2 lS hy)⟩
  · have t1 : ∀ xs : List D, tupleD (.tmp (.lst xs)) s = .ok (.tup xs) s := fun _ => rfl
    exact asg_sub ((un_at lc).trans (t1 _)) rfl rfl ((bin_at rfl rfl).trans ev) sd
  · rw [List.getElem?_set_ne da]
    exact h.a
  · rw [List.getElem?_set_ne db]
    exact h.b
  · rw [List.getElem?_set_ne dc]
    exact h.c
end
end Law
set_option Elab.async false
set_option linter.all false
set_option maxRecDepth 100000
set_option maxHeartbeats 4000000
namespace Law
open PySem Ev
theorem asg_two {i j : Nat} {e : Ex} {fr : Fr} {s s1 : Sto} {x y : D} (h : e fr s = .ok (.tup [x, y]) s1) (hx : x.kept = true) (hy : y.kept = true) : asgS (tupT [setT i, setT j]) e fr s = .ok (.nx ((fr.set i (some x)).set j (some y))) s1 := by
  have t : tupT [setT i, setT j] (.tup [x, y]) fr s1 = (setT i x fr s1).bnd fun fr => bnd (setT j y fr) fun fr => Ev.ret fr := rfl
  rw [asgS_app, h, bnd_ok, bnd_app, t, setT_at hx, bnd_ok, bnd_app, setT_at hy]
  rfl
theorem row_two {i j : Nat} {fr : Fr} {s : Sto} {x y : D} (hx : x.kept = true) (hy : y.kept = true) : tupT [setT i, setT j] (.row [x, y]) fr s = .ok ((fr.set i (some x)).set j (some y)) s := by
  have t : tupT [setT i, setT j] (.row [x, y]) fr s = (setT i x fr s).bnd fun fr => bnd (setT j y fr) fun fr => Ev.ret fr := rfl
  rw [t, setT_at hx, bnd_ok, bnd_app, setT_at hy]
  rfl
section
variable {n N M B : Nat} {st : Sto}
theorem renL_loop {a b c d : Nat} {S T Y : List D} {w l r : D} (hc : st.length ≤ c) (ca : c ≠ a) (cb : c ≠ b) (cd : c ≠ d) (lS : S.length = N) (hS : Nat1 N N S) (lT : T.length = M) (hT : Nat1 M M T) : ∀ (rem : List D) (k : Nat) (X : List D) (s : Sto) (o8 o9 o10 : Option D), k + rem.length = N → Rw B M rem → Ren B n N M st a b c d S T X Y s →
    ∃ X' s' o8' o9' o10', loop (tupT [(setT 8), (setT 9)]) renL (numb k rem) (nfr n a b c d w l r o8 o9 o10) s = .ok (.nx (nfr n a b c d w l r o8' o9' o10')) s' ∧ Ren B n N M st a b c d S T X' Y s' := by
  intro rem
  induction rem with
  | nil => exact fun k X s o8 o9 o10 _ _ h => ⟨X, s, o8, o9, o10, rfl, h⟩
  | cons row rem ih =>
    intro k X s o8 o9 o10 hk hr h
    obtain ⟨ys, rfl, y1, y2⟩ := hr row List.mem_cons_self
    simp only [List.length_cons] at hk
    obtain ⟨X1, s1, e1, h1⟩ := renL_at (w := w) (l := l) (r := r) (o10 := o10) (i := k) h hc ca cb cd lS hS lT hT (by omega) ⟨y1, y2⟩
    obtain ⟨X2, s2, o8', o9', o10', e2, h2⟩ := ih (k + 1) X1 s1 (some (.int k)) (some (.tup ys)) o10 (by omega) (fun r m => hr r (List.mem_cons_of_mem _ m)) h1
    refine ⟨X2, s2, o8', o9', o10', ?_, h2⟩
    have t : tupT [(setT 8), (setT 9)] (.row [.int k, .tup ys]) (nfr n a b c d w l r o8 o9 o10) s = .ok (nfr n a b c d w l r (some (.int k)) (some (.tup ys)) o10) s := row_two rfl rfl
    unfold numb loop
    rw [bnd_app, t, bnd_ok, bnd_app, e1, bnd_ok]
    exact e2
theorem renR_loop {a b c d : Nat} {S T X : List D} {w l r : D} (hc : st.length ≤ d) (da : d ≠ a) (db : d ≠ b) (dc : d ≠ c) (lS : S.length = N) (hS : Nat1 N N S) (lT : T.length = M) (hT : Nat1 M M T) : ∀ (rem : List D) (k : Nat) (Y : List D) (s : Sto) (o8 o9 o10 : Option D), k + rem.length = M → Rw B N rem → Ren B n N M st a b c d S T X Y s →
    ∃ Y' s' o8' o9' o10', loop (tupT [(setT 10), (setT 9)]) renR (numb k rem) (nfr n a b c d w l r o8 o9 o10) s = .ok (.nx (nfr n a b c d w l r o8' o9' o10')) s' ∧ Ren B n N M st a b c d S T X Y' s' := by
  intro rem
  induction rem with
  | nil => exact fun k Y s o8 o9 o10 _ _ h => ⟨Y, s, o8, o9, o10, rfl, h⟩
  | cons row rem ih =>
    intro k Y s o8 o9 o10 hk hr h
    obtain ⟨ys, rfl, y1, y2⟩ := hr row List.mem_cons_self
    simp only [List.length_cons] at hk
    obtain ⟨X1, s1, e1, h1⟩ := renR_at (w := w) (l := l) (r := r) (o8 := o8) (i := k) h hc da db dc lS hS lT hT (by omega) ⟨y1, y2⟩
    obtain ⟨X2, s2, o8', o9', o10', e2, h2⟩ := ih (k + 1) X1 s1 o8 (some (.tup ys)) (some (.int k)) (by omega) (fun r m => hr r (List.mem_cons_of_mem _ m)) h1
    refine ⟨X2, s2, o8', o9', o10', ?_, h2⟩
    have t : tupT [(setT 10), (setT 9)] (.row [.int k, .tup ys]) (nfr n a b c d w l r o8 o9 o10) s = .ok (nfr n a b c d w l r o8 (some (.tup ys)) (some (.int k))) s := row_two rfl rfl
    unfold numb loop
    rw [bnd_app, t, bnd_ok, bnd_app, e1, bnd_ok]
    exact e2
/-- two lists in drawn sequences -/
theorem two_mixed {e f : Ex} {fr : Fr} (hd : Dice st n) (hN : N ≤ 30) (hM : M ≤ 30) (h0 : ∀ s, varE 0 fr s = .ok (.ref n) s) (he : ∀ s, e fr s = .ok (.tmp (.lst (upto N))) s) (hf : ∀ s, f fr s = .ok (.tmp (.lst (upto M))) s) :
    ∃ S T s', ∃ a b, tupE [callE 2 F__law_mixed [varE 0, e], callE 2 F__law_mixed [varE 0, f]] fr st = .ok (.tup [.ref a, .ref b]) s' ∧ Aft n st s' ∧ s'[a]? = some (.lst S) ∧ s'[b]? = some (.lst T) ∧ st.length ≤ a ∧ a < b ∧ b < s'.length ∧ S.length = N ∧ Nat1 N N S ∧ T.length = M ∧ Nat1 M M T := by
  have hn := hd.lt
  obtain ⟨S, s1, e1, a1, p1⟩ := call_mixed (h0 _) (he _) hd upto_nat (by omega)
  have a1' := a1.grow [.lst S]
  obtain ⟨T, s2, e2, a2, p2⟩ := call_mixed (h0 _) (hf _) (a1'.dice hn) upto_nat (by omega)
  have z1 : st.length ≤ s1.length := a1.len
  have z2 : s1.length + 1 ≤ s2.length := by have := a2.len; rw [List.length_append] at this; exact this
  refine ⟨S, T, s2 ++ [.lst T], s1.length, s2.length, tup_new e1 e2, (a1'.trans hn a2).grow _, cell_app (a2.cell (by omega) cell_new), cell_new, z1, by omega, by simp, ?_, upto_nat.perm p1, ?_, upto_nat.perm p2⟩
  · rw [p1.length_eq, upto_len]
  · rw [p2.length_eq, upto_len]
theorem f_renamed {w : D} {ls rs : List D} (hd : Dice st n) (h : Wi B N M w ls rs) (hN : N ≤ 30) (hM : M ≤ 30) : ∃ d e2 e3 ls' rs' st', F__law_renamed_wishes [.ref n, w] st = .ok (.tup [d, e2, e3]) st' ∧ Aft n st st' ∧ Wi B N M d ls' rs' := by
  have hn := hd.lt
  obtain ⟨rfl, rfl, rfl, hl, hr⟩ := h
  obtain ⟨S, T, s1, a, b, e1, a1, cS, cT, la, lab, lb, lS, hS, lT, hT⟩ := two_mixed (n := n) (N := ls.length) (M := rs.length) (e := un1 (listRange (.int 0)) (un1 lenD (varE 2))) (f := un1 (listRange (.int 0)) (un1 lenD (varE 3))) (fr := [some (.ref n), some (.tup [.tup ls, .tup rs]), some (.tup ls), some (.tup rs), none, none, none, none, none, none, none]) hd hN hM (fun _ => rfl) (fun s => (un_at (x := .int ls.length) (s1 := s) rfl).trans (range_at (by omega))) (fun s => (un_at (x := .int rs.length) (s1 := s) rfl).trans (range_at (by omega)))
  have q1 : (asgS (tupT [(setT 2), (setT 3)]) (varE 1)) [some (.ref n), some (.tup [.tup ls, .tup rs]), none, none, none, none, none, none, none, none, none] st = .ok (.nx [some (.ref n), some (.tup [.tup ls, .tup rs]), some (.tup ls), some (.tup rs), none, none, none, none, none, none, none]) st := asg_two rfl rfl rfl
  have q2 := asg_two (i := 4) (j := 5) e1 rfl rfl
  have e3 : tupE [(bin2 mulD (lstE [(tupE [])]) (un1 lenD (varE 2))), (bin2 mulD (lstE [(tupE [])]) (un1 lenD (varE 3)))] [some (.ref n), some (.tup [.tup ls, .tup rs]), some (.tup ls), some (.tup rs), some (.ref a), some (.ref b), none, none, none, none, none] s1 = .ok (.tup [.ref s1.length, .ref (s1 ++ [Cell.lst (List.replicate ls.length (.tup []))]).length]) ((s1 ++ [.lst (List.replicate ls.length (.tup []))]) ++ [.lst (List.replicate rs.length (.tup []))]) :=
    tup_new ((bin_at (x := .tmp (.lst [.tup []])) (y := .int ls.length) (s1 := s1) (s2 := s1) rfl rfl).trans (rep_at (by omega))) ((bin_at (x := .tmp (.lst [.tup []])) (y := .int rs.length) (s1 := s1 ++ [.lst (List.replicate ls.length (.tup []))]) (s2 := s1 ++ [.lst (List.replicate ls.length (.tup []))]) rfl rfl).trans (rep_at (by omega)))
  have q3 := asg_two (i := 6) (j := 7) e3 rfl rfl
  have lc : (s1 ++ [Cell.lst (List.replicate ls.length (.tup []))]).length = s1.length + 1 := by rw [List.length_append]; rfl
  rw [lc] at q3
  have R0 : Ren B n ls.length rs.length st a b s1.length (s1.length + 1) S T (List.replicate ls.length (.tup [])) (List.replicate rs.length (.tup [])) ((s1 ++ [.lst (List.replicate ls.length (.tup []))]) ++ [.lst (List.replicate rs.length (.tup []))]) :=
    ⟨(a1.grow _).grow _, cell_app (cell_app cS), cell_app (cell_app cT), cell_app cell_new, by have := cell_new (st := s1 ++ [Cell.lst (List.replicate ls.length (.tup []))]) (c := .lst (List.replicate rs.length (.tup []))); rwa [lc] at this, List.length_replicate, List.length_replicate, rep_rw, rep_rw⟩
  have z1 : st.length ≤ s1.length := a1.len
  obtain ⟨X, s2, o8, o9, o10, e4, R1⟩ := renL_loop (w := .tup [.tup ls, .tup rs]) (l := .tup ls) (r := .tup rs) z1 (by omega) (by omega) (by omega) lS hS lT hT ls 0 _ _ none none none (by omega) hl R0
  have q4 := forS_ok (it := enumI (varE 2)) (q := tupT [(setT 8), (setT 9)]) (body := renL) (fr := nfr n a b s1.length (s1.length + 1) (.tup [.tup ls, .tup rs]) (.tup ls) (.tup rs) none none none) (items := numb 0 ls) (ns := []) rfl e4
  rw [unlocks_nil] at q4
  obtain ⟨Y, s3, o8', o9', o10', e5, R2⟩ := renR_loop (w := .tup [.tup ls, .tup rs]) (l := .tup ls) (r := .tup rs) (by omega) (by omega) (by omega) (by omega) lS hS lT hT rs 0 _ _ o8 o9 o10 (by omega) hr R1
  have q5 := forS_ok (it := enumI (varE 3)) (q := tupT [(setT 10), (setT 9)]) (body := renR) (fr := nfr n a b s1.length (s1.length + 1) (.tup [.tup ls, .tup rs]) (.tup ls) (.tup rs) o8 o9 o10) (items := numb 0 rs) (ns := []) rfl e5
  rw [unlocks_nil] at q5
  have w : Wi B ls.length rs.length (.tup [.tup X, .tup Y]) X Y := ⟨rfl, R2.lX, R2.lY, R2.X, R2.Y⟩
  have eb : B__law_renamed_wishes ([.ref n, .tup [.tup ls, .tup rs]].map some ++ List.replicate 9 none) st = .ok (.rt (.tup [.tup [.tup X, .tup Y], .ref a, .ref b])) s3 := by
    refine (seq_nx q1).trans ?_
    refine (seq_nx q2).trans ?_
    refine (seq_nx q3).trans ?_
    refine (seq_nx q4).trans ?_
    refine (seq_nx q5).trans ?_
    have t : tupE [(un1 tupleD (varE 6)), (un1 tupleD (varE 7))] (nfr n a b s1.length (s1.length + 1) (.tup [.tup ls, .tup rs]) (.tup ls) (.tup rs) o8' o9' o10') s3 = .ok (.tup [.tup X, .tup Y]) s3 := tup_two ((un_at rfl).trans (tuple_cell R2.c)) rfl ((un_at rfl).trans (tuple_cell R2.d)) rfl
    exact ret_at (tup_three t rfl rfl rfl rfl rfl)
  have f := fnD_ok (n := 2) (m := 9) (ds := [.ref n, .tup [.tup ls, .tup rs]]) rfl eb
  have kp := R2.aft.kept
  have sw : ∃ st', Ev.sweep st (.tup [.tup [.tup X, .tup Y], .ref a, .ref b]) s3 = .ok (.tup [.tup [.tup X, .tup Y], .ref a, .ref b]) st' ∧ Aft n st st' := by
    by_cases low : (D.tup [.tup [.tup X, .tup Y], .ref a, .ref b]).lower st.length = true
    · obtain ⟨s4, e, r⟩ := R2.aft.sweep low
      exact ⟨s4, e, .of r⟩
    · refine ⟨s3, ?_, R2.aft⟩
      unfold Ev.sweep
      rw [if_pos kp, if_neg low]
  obtain ⟨st', e, r⟩ := sw
  exact ⟨_, _, _, X, Y, st', f.trans e, r, w⟩
end
end Law
set_option Elab.async false
set_option linter.all false
set_option maxRecDepth 100000
set_option maxHeartbeats 4000000
namespace Law
open PySem Ev
section
variable {n N M B : Nat} {st : Sto}
structure Mas (B n M : Nat) (st : Sto) (a b c : Nat) (S T X : List D) (s : Sto) : Prop where
  aft : Aft n st s
  a : s[a]? = some (.lst S)
  b : s[b]? = some (.lst T)
  c : s[c]? = some (.lst X)
  X : Rw B M X
abbrev mfr (n N M a b c : Nat) (o6 o7 o8 : Option D) : Fr := [some (.ref n), some (.int N), some (.int M), some (.ref a), some (.ref b), some (.ref c), o6, o7, o8, none]
noncomputable abbrev masS : S := (seqS (asgS (setT 7) (un1 listD (varE 4)))
    (seqS (asgS (setT 8) (callE 2 F__law_roll [(varE 0), (varE 2)]))
    (seqS (swapS 7 8)
    (exprS (meth1s ["list"] appendD (varE 5) (un1 tupleD (varE 7)))))))
theorem mas_step {a b c : Nat} {S T X : List D} {s : Sto} {o6 o7 o8 : Option D} (hn : n < st.length) (ha : st.length ≤ a) (hb : st.length ≤ b) (hc : st.length ≤ c) (ca : c ≠ a) (cb : c ≠ b) (hM : 0 < M) (zM : M ≤ 30) (hMB : M ≤ B) (hT : Nat1 M M T) (lT : T.length = M) (zX : X.length ≤ 100) (h : Mas B n M st a b c S T X s) :
    ∃ X' s' o7' o8', masS (mfr n N M a b c o6 o7 o8) s = .ok (.nx (mfr n N M a b c o6 o7' o8')) s' ∧ Mas B n M st a b c S T X' s' ∧ X'.length = X.length + 1 := by
  have e1 : un1 listD (varE 4) (mfr n N M a b c o6 o7 o8) s = .ok (.tmp (.lst T)) s := (un_at rfl).trans (list_cell h.b)
  have a1 := h.aft.grow [.lst T]
  obtain ⟨t, s2, e2, r2, lt⟩ := call_roll (fr := mfr n N M a b c o6 (some (.ref s.length)) o8) (e := varE 2) (t := (M : Int)) rfl rfl (a1.dice hn) (by omega) (by omega)
  have a2 := a1.roll hn r2
  have hl := h.aft.len
  have kn : s.length ≠ n := by omega
  have ck := r2.cell kn (cell_new (st := s) (c := .lst T))
  obtain ⟨row', e3, l3, p3⟩ := swap_at (N := M) (i := 7) (j := 8) (k := s.length) (at' := t) (fr := mfr n N M a b c o6 (some (.ref s.length)) (some (.int t))) rfl rfl ck hT lT (by omega)
  have la := cell_lt h.a
  have lb := cell_lt h.b
  have lc := cell_lt h.c
  have a3 := a2.set (k := s.length) (by omega) (.lst row')
  have cA : (s2.set s.length (.lst row'))[a]? = some (.lst S) := by
    rw [List.getElem?_set_ne (by omega)]
    exact r2.cell (by omega) (cell_app h.a)
  have cB : (s2.set s.length (.lst row'))[b]? = some (.lst T) := by
    rw [List.getElem?_set_ne (by omega)]
    exact r2.cell (by omega) (cell_app h.b)
  have cC : (s2.set s.length (.lst row'))[c]? = some (.lst X) := by
    rw [List.getElem?_set_ne (by omega)]
    exact r2.cell (by omega) (cell_app h.c)
  have cK : (s2.set s.length (.lst row'))[s.length]? = some (.lst row') := List.getElem?_set_self (cell_lt ck)
  have e4 : exprS (meth1s ["list"] appendD (varE 5) (un1 tupleD (varE 7))) (mfr n N M a b c o6 (some (.ref s.length)) (some (.int t))) (s2.set s.length (.lst row')) = .ok (.nx (mfr n N M a b c o6 (some (.ref s.length)) (some (.int t)))) ((s2.set s.length (.lst row')).set c (.lst (X ++ [.tup row']))) :=
    app_call rfl ((un_at rfl).trans (tuple_cell cK)) cC cC rfl (by omega)
  refine ⟨X ++ [.tup row'], (s2.set s.length (.lst row')).set c (.lst (X ++ [.tup row'])), some (.ref s.length), some (.int t), ?_, ⟨a3.set hc _, ?_, ?_, List.getElem?_set_self (cell_lt cC), ?_⟩, by simp⟩
  · refine (seq_nx (asg_new e1)).trans ?_
    refine (seq_nx (asg_set e2 rfl)).trans ?_
    exact (seq_nx e3).trans e4
  · rw [List.getElem?_set_ne ca]
    exact cA
  · rw [List.getElem?_set_ne cb]
    exact cB
  · refine h.X.append fun r hr => ?_
    rw [List.mem_singleton.mp hr]
    exact ⟨row', rfl, by omega, p3.2⟩
theorem mas_loop {a b c : Nat} {S T : List D} (hn : n < st.length) (ha : st.length ≤ a) (hb : st.length ≤ b) (hc : st.length ≤ c) (ca : c ≠ a) (cb : c ≠ b) (hM : 0 < M) (zM : M ≤ 30) (hMB : M ≤ B) (hT : Nat1 M M T) (lT : T.length = M) : ∀ (is X : List D) (s : Sto) (o6 o7 o8 : Option D), (∀ x ∈ is, x.kept = true) → X.length + is.length ≤ 100 → Mas B n M st a b c S T X s →
    ∃ X' s' o6' o7' o8', loop (setT 6) masS is (mfr n N M a b c o6 o7 o8) s = .ok (.nx (mfr n N M a b c o6' o7' o8')) s' ∧ Mas B n M st a b c S T X' s' ∧ X'.length = X.length + is.length := by
  intro is
  induction is with
  | nil => exact fun X s o6 o7 o8 _ _ h => ⟨X, s, o6, o7, o8, rfl, h, rfl⟩
  | cons x is ih =>
    intro X s o6 o7 o8 hk hz h
    simp only [List.length_cons] at hz
    obtain ⟨X1, s1, o7', o8', e1, h1, l1⟩ := mas_step (N := N) (o6 := some x) (o7 := o7) (o8 := o8) hn ha hb hc ca cb hM zM hMB hT lT (by omega) h
    obtain ⟨X2, s2, o6', o7'', o8'', e2, h2, l2⟩ := ih X1 s1 (some x) o7' o8' (fun y m => hk y (List.mem_cons_of_mem _ m)) (by omega) h1
    refine ⟨X2, s2, o6', o7'', o8'', ?_, h2, by rw [List.length_cons]; omega⟩
    have t : setT 6 x (mfr n N M a b c o6 o7 o8) s = .ok (mfr n N M a b c (some x) o7 o8) s := setT_at (hk x List.mem_cons_self)
    unfold loop
    rw [bnd_app, t, bnd_ok, bnd_app, e1, bnd_ok]
    exact e2
theorem f_master (hd : Dice st n) (h0 : 0 < M) (hN : N ≤ 30) (hM : M ≤ 30) : ∃ d ls rs st', F__law_master_wishes [.ref n, .int N, .int M] st = .ok d st' ∧ Rolled n st st' ∧ Wi 30 N M d ls rs := by
  have hn := hd.lt
  obtain ⟨S, T, s1, a, b, e1, a1, cS, cT, la, lab, lb, lS, hS, lT, hT⟩ := two_mixed (n := n) (N := N) (M := M) (e := un1 (listRange (.int 0)) (varE 1)) (f := un1 (listRange (.int 0)) (varE 2)) (fr := [some (.ref n), some (.int N), some (.int M), none, none, none, none, none, none, none]) hd hN hM (fun _ => rfl) (fun s => (un_at (x := .int N) (s1 := s) rfl).trans (range_at (by omega))) (fun s => (un_at (x := .int M) (s1 := s) rfl).trans (range_at (by omega)))
  have q1 := asg_two (i := 3) (j := 4) e1 rfl rfl
  have z1 := a1.len
  have M0 : Mas 30 n M st a b s1.length S T [] (s1 ++ [.lst []]) := ⟨a1.grow _, cell_app cS, cell_app cT, cell_new, fun r hr => (List.not_mem_nil hr).elim⟩
  obtain ⟨X, s2, o6, o7, o8, e2, R, lX⟩ := mas_loop (N := N) (B := 30) hn la (by omega) z1 (by omega) (by omega) h0 hM hM hT lT ((List.range N).map fun i : Nat => D.int i) [] (s1 ++ [.lst []]) none none none (fun x hx => by
    obtain ⟨i, _, rfl⟩ := List.mem_map.mp hx
    rfl) (by simp; omega) M0
  have lX : X.length = N := by simpa using lX
  have it : range1I (varE 1) (mfr n N M a b s1.length none none none) (s1 ++ [.lst []]) = .ok ⟨(List.range N).map fun i : Nat => D.int i, []⟩ (s1 ++ [.lst []]) := range1_at (m := N) rfl (by omega)
  have q3 := forS_ok (q := setT 6) (body := masS) it e2
  rw [unlocks_nil] at q3
  have it2 : range1I (varE 2) (mfr n N M a b s1.length o6 o7 o8) s2 = .ok ⟨(List.range M).map fun i : Nat => D.int i, []⟩ s2 := range1_at (m := M) rfl (by omega)
  have lc := lcE_map (own := [9]) (q := setT 9) (e := un1 tupleD (varE 3)) (fr1 := fun y => [some (.ref n), some (.int N), some (.int M), some (.ref a), some (.ref b), some (.ref s1.length), o6, o7, o8, some y]) (g := fun _ => .tup S) it2 (fun y hy => by
    obtain ⟨i, _, rfl⟩ := List.mem_map.mp hy
    rfl) (fun y hy => ⟨(un_at rfl).trans (tuple_cell R.a), rfl⟩)
  rw [unlocks_nil] at lc
  have w : Wi 30 N M (.tup [.tup X, .tup (((List.range M).map fun i : Nat => D.int i).map fun _ => D.tup S)]) X (((List.range M).map fun i : Nat => D.int i).map fun _ => D.tup S) := ⟨rfl, lX, by simp, R.X, fun r hr => by
    obtain ⟨_, _, rfl⟩ := List.mem_map.mp hr
    exact ⟨S, rfl, by omega, hS.2⟩⟩
  obtain ⟨st', e5, r5⟩ := fn_aft (N := 3) (m := 7) (body := B__law_master_wishes) (ds := [.ref n, .int N, .int M]) (st := st) rfl (by
    refine (seq_nx q1).trans ?_
    refine (seq_nx (asg_new (c := .lst []) rfl)).trans ?_
    refine (seq_nx q3).trans ?_
    exact ret_at (tup_two ((un_at rfl).trans (tuple_cell R.c)) rfl ((un_at lc).trans rfl) rfl)) R.aft w.low
  exact ⟨_, _, _, st', e5, r5, w⟩
end
end Law
set_option Elab.async false
set_option linter.all false
set_option maxRecDepth 100000
set_option maxHeartbeats 4000000
namespace Law
open PySem Ev
theorem if_yes {t : Te} {a b : S} {fr : Fr} {s s' : Sto} (h : t fr s = .ok true s') : ifS t a b fr s = a fr s' := by rw [ifS_app, h, bnd_ok, if_pos rfl]
theorem if_no {t : Te} {a b : S} {fr : Fr} {s s' : Sto} (h : t fr s = .ok false s') : ifS t a b fr s = b fr s' := by rw [ifS_app, h, bnd_ok, if_neg Bool.false_ne_true]
theorem ife_yes {t : Te} {a b : Ex} {fr : Fr} {s s' : Sto} (h : t fr s = .ok true s') : ifE t a b fr s = a fr s' := by rw [ifE_app, h, bnd_ok, if_pos rfl]
theorem ife_no {t : Te} {a b : Ex} {fr : Fr} {s s' : Sto} (h : t fr s = .ok false s') : ifE t a b fr s = b fr s' := by rw [ifE_app, h, bnd_ok, if_neg Bool.false_ne_true]
theorem and_no {t u : Te} {fr : Fr} {s s' : Sto} (h : t fr s = .ok false s') : andT t u fr s = .ok false s' := by rw [andT_app, h, bnd_ok, if_neg Bool.false_ne_true]; rfl
theorem and_yes {t u : Te} {fr : Fr} {s s' : Sto} (h : t fr s = .ok true s') : andT t u fr s = u fr s' := by rw [andT_app, h, bnd_ok, if_pos rfl]
theorem or_no {t u : Te} {fr : Fr} {s s' : Sto} (h : t fr s = .ok false s') : orT t u fr s = u fr s' := by rw [orT_app, h, bnd_ok, if_neg Bool.false_ne_true]
theorem or_yes {t u : Te} {fr : Fr} {s s' : Sto} (h : t fr s = .ok true s') : orT t u fr s = .ok true s' := by rw [orT_app, h, bnd_ok, if_pos rfl]; rfl
theorem eq_test {e : Ex} {i c : Int} {fr : Fr} {s : Sto} (h : e fr s = .ok (.int i) s) : testE (bin2 (cmpD .Eq) e (conE (.int c))) fr s = .ok (decide (i = c)) s := test_at ((bin_at (y := .int c) h rfl).trans (show cmpD .Eq (.int i) (.int c) s = _ from eqD_int))
theorem gt_test {e : Ex} {i c : Int} {fr : Fr} {s : Sto} (h : e fr s = .ok (.int i) s) : testE (bin2 (cmpD .Gt) e (conE (.int c))) fr s = .ok (decide (c < i)) s := test_at ((bin_at h rfl).trans rfl)
theorem asg_three {i j k : Nat} {e : Ex} {fr : Fr} {s s1 : Sto} {x y z : D} (h : e fr s = .ok (.tup [x, y, z]) s1) (hx : x.kept = true) (hy : y.kept = true) (hz : z.kept = true) : asgS (tupT [setT i, setT j, setT k]) e fr s = .ok (.nx (((fr.set i (some x)).set j (some y)).set k (some z))) s1 := by
  have t : tupT [setT i, setT j, setT k] (.tup [x, y, z]) fr s1 = (setT i x fr s1).bnd fun fr => bnd (setT j y fr) fun fr => bnd (setT k z fr) fun fr => Ev.ret fr := rfl
  rw [asgS_app, h, bnd_ok, bnd_app, t, setT_at hx, bnd_ok, bnd_app, setT_at hy, bnd_ok, bnd_app, setT_at hz]
  rfl
section
variable {n N M B : Nat} {st : Sto}
theorem Wi.kept {d : D} {ls rs : List D} (h : Wi B N M d ls rs) : d.kept = true := by rw [h.eq]; rfl
/-- drawn wishes behind a store -/
def Drawn (n : Nat) (st : Sto) (d : D) (s' : Sto) : Prop := Aft n st s' ∧ ∃ N M ls rs, Wi 60 N M d ls rs ∧ 1 ≤ N ∧ 1 ≤ M ∧ N ≤ 14 ∧ M ≤ 14
theorem Drawn.of {d : D} {s' : Sto} {ls rs : List D} (a : Aft n st s') (w : Wi B N M d ls rs) (hB : B ≤ 60) (h1 : 1 ≤ N) (h2 : 1 ≤ M) (h3 : N ≤ 14) (h4 : M ≤ 14) : Drawn n st d s' := ⟨a, N, M, ls, rs, w.mono hB, h1, h2, h3, h4⟩
abbrev dfr (n most N M way : Nat) (o5 o6 : Option D) : Fr := [some (.ref n), some (.int most), some (.int N), some (.int M), some (.int way), o5, o6]
noncomputable abbrev drW3 : S := (seqS (asgS (setT 5) (bin2 fdivD (varE 1) (conE (.int 2))))
    (retS (callE 2 F__law_beside [(callE 2 F__law_ring_wishes [(varE 0), (varE 5)]), (callE 3 F__law_cut_wishes [(varE 0), (bin2 subD (varE 1) (varE 5)), (bin2 subD (varE 1) (varE 5))])])))
noncomputable abbrev drW4 : S := (seqS (asgS (setT 6) (callE 2 F__law_ring_wishes [(varE 0), (conE (.int 2))]))
    (retS (bin2 ixD (callE 2 F__law_renamed_wishes [(varE 0), (callE 2 F__law_beside [(varE 6), (callE 2 F__law_ring_wishes [(varE 0), (bin2 subD (varE 1) (conE (.int 2)))])])]) (conE (.int 0)))))
noncomputable abbrev drW : Ex := (ifE (testE (bin2 (cmpD .Gt) (varE 1) (conE (.int 1)))) (bin2 ixD (callE 2 F__law_renamed_wishes [(varE 0), (callE 2 F__law_ring_wishes [(varE 0), (bin2 maxD (conE (.int 2)) (varE 2))])]) (conE (.int 0))) (callE 2 F__law_whole_wishes [(varE 0), (conE (.int 1))]))
theorem ix_0 {d e2 e3 : D} {s : Sto} : ixD (.tup [d, e2, e3]) (.int 0) s = .ok d s := rfl
theorem dr_last {most N M way : Nat} {o5 o6 : Option D} (hd : Dice st n) (hN : 1 ≤ N) (hz : N ≤ 7) : ∃ d s', drW (dfr n most N M way o5 o6) st = .ok d s' ∧ Drawn n st d s' := by
  have hn := hd.lt
  by_cases q : 1 < most
  · have t : testE (bin2 (cmpD .Gt) (varE 1) (conE (.int 1))) (dfr n most N M way o5 o6) st = .ok true st := (gt_test (i := most) rfl).trans (by rw [decide_eq_true (by omega)])
    obtain ⟨k, ek, k1, k2⟩ : ∃ k : Nat, maxD (.int 2) (.int N) st = .ok (.int k) st ∧ 1 ≤ k ∧ k ≤ 7 := by
      by_cases z : (N : Int) > 2
      · exact ⟨N, by show R.ok (D.int (if (N : Int) > 2 then (N : Int) else 2)) st = _; rw [if_pos z], hN, hz⟩
      · exact ⟨2, by show R.ok (D.int (if (N : Int) > 2 then (N : Int) else 2)) st = _; rw [if_neg z]; rfl, by omega, by omega⟩
    obtain ⟨w1, ls1, rs1, s1, e1, r1, W1⟩ := f_ring (N := k) hd (by omega) (by omega)
    obtain ⟨w2, x2, x3, ls2, rs2, s2, e2, a2, W2⟩ := f_renamed (r1.dice hd) W1 (by omega) (by omega)
    refine ⟨w2, s2, ?_, .of ((Aft.of r1).trans hn a2) W2 (by omega) (by omega) (by omega) (by omega) (by omega)⟩
    have c1 : callE 2 F__law_ring_wishes [(varE 0), (bin2 maxD (conE (.int 2)) (varE 2))] (dfr n most N M way o5 o6) st = .ok w1 s1 := (call2 rfl rfl ((bin_at rfl rfl).trans ek) rfl).trans e1
    have c2 := (call2 (F := F__law_renamed_wishes) (a := varE 0) (x := .ref n) rfl rfl c1 W1.kept).trans e2
    exact (ife_yes t).trans ((bin_at c2 rfl).trans ix_0)
  · have t : testE (bin2 (cmpD .Gt) (varE 1) (conE (.int 1))) (dfr n most N M way o5 o6) st = .ok false st := (gt_test (i := most) rfl).trans (by rw [decide_eq_false (by omega)])
    obtain ⟨w1, ls1, rs1, s1, e1, r1, W1⟩ := f_whole (N := 1) hd (by omega)
    exact ⟨w1, s1, (ife_no t).trans ((call2 rfl rfl rfl rfl).trans e1), .of (.of r1) W1 (by omega) (by omega) (by omega) (by omega) (by omega)⟩
theorem dr_3 {most N M way : Nat} {o5 o6 : Option D} (hd : Dice st n) (h1 : 3 < most) (hz : most ≤ 7) : ∃ d s', drW3 (dfr n most N M way o5 o6) st = .ok (.rt d) s' ∧ Drawn n st d s' := by
  have hn := hd.lt
  obtain ⟨k, ek, k1, k2⟩ : ∃ k : Nat, fdivD (.int most) (.int 2) st = .ok (.int k) st ∧ 1 ≤ k ∧ k < most := by
    refine ⟨most / 2, ?_, by omega, by omega⟩
    rw [fdiv_int ⟨by decide, by decide⟩, Int.fdiv_eq_ediv_of_nonneg _ (by decide), show (most : Int) / 2 = ((most / 2 : Nat) : Int) by omega]
  obtain ⟨w1, ls1, rs1, s1, e1, r1, W1⟩ := f_ring (N := k) hd (by omega) (by omega)
  have sb : ∀ s, subD (.int most) (.int k) s = .ok (.int ((most - k : Nat) : Int)) s := fun s => by
    show R.ok (D.int ((most : Int) - k)) s = _
    rw [show ((most - k : Nat) : Int) = (most : Int) - k by omega]
  obtain ⟨w2, ls2, rs2, s2, e2, r2, W2⟩ := f_cut (N := most - k) (M := most - k) (r1.dice hd) (by omega) (by omega)
  have mm : (most - k) * (most - k) ≤ 7 * 7 := Nat.mul_le_mul (by omega) (by omega)
  obtain ⟨w3, ls3, rs3, e3, W3⟩ := f_beside (st := s2) (W1.mono (B' := 60) (by omega)) (W2.mono (B' := 60) (by omega)) (by omega) (by omega)
  refine ⟨w3, s2, ?_, .of ((Aft.of r1).roll hn r2) W3 (by omega) (by omega) (by omega) (by omega) (by omega)⟩
  have c0 : asgS (setT 5) (bin2 fdivD (varE 1) (conE (.int 2))) (dfr n most N M way o5 o6) st = .ok (.nx (dfr n most N M way (some (.int k)) o6)) st := asg_set ((bin_at rfl rfl).trans ek) rfl
  have c1 : callE 2 F__law_ring_wishes [(varE 0), (varE 5)] (dfr n most N M way (some (.int k)) o6) st = .ok w1 s1 := (call2 rfl rfl rfl rfl).trans e1
  have c2 : callE 3 F__law_cut_wishes [(varE 0), (bin2 subD (varE 1) (varE 5)), (bin2 subD (varE 1) (varE 5))] (dfr n most N M way (some (.int k)) o6) s1 = .ok w2 s2 := (call3 rfl rfl ((bin_at rfl rfl).trans (sb s1)) rfl ((bin_at rfl rfl).trans (sb s1)) rfl).trans e2
  exact (seq_nx c0).trans (ret_at ((call2 c1 W1.kept c2 W2.kept).trans e3))
theorem dr_4 {most N M way : Nat} {o5 o6 : Option D} (hd : Dice st n) (h1 : 3 < most) (hz : most ≤ 7) : ∃ d s', drW4 (dfr n most N M way o5 o6) st = .ok (.rt d) s' ∧ Drawn n st d s' := by
  have hn := hd.lt
  obtain ⟨w1, ls1, rs1, s1, e1, r1, W1⟩ := f_ring (N := 2) hd (by omega) (by omega)
  have sb : ∀ s, subD (.int most) (.int 2) s = .ok (.int ((most - 2 : Nat) : Int)) s := fun s => by
    show R.ok (D.int ((most : Int) - 2)) s = _
    rw [show ((most - 2 : Nat) : Int) = (most : Int) - 2 by omega]
  obtain ⟨w2, ls2, rs2, s2, e2, r2, W2⟩ := f_ring (N := most - 2) (r1.dice hd) (by omega) (by omega)
  obtain ⟨w3, ls3, rs3, e3, W3⟩ := f_beside (st := s2) (W1.mono (B' := 60) (by omega)) (W2.mono (B' := 60) (by omega)) (by omega) (by omega)
  obtain ⟨w4, x2, x3, ls4, rs4, s4, e4, a4, W4⟩ := f_renamed (r2.dice (r1.dice hd)) W3 (by omega) (by omega)
  refine ⟨w4, s4, ?_, .of (((Aft.of r1).roll hn r2).trans hn a4) W4 (by omega) (by omega) (by omega) (by omega) (by omega)⟩
  have c0 : asgS (setT 6) (callE 2 F__law_ring_wishes [(varE 0), (conE (.int 2))]) (dfr n most N M way o5 o6) st = .ok (.nx (dfr n most N M way o5 (some w1))) s1 := asg_set ((call2 rfl rfl rfl rfl).trans e1) W1.kept
  have c2 : callE 2 F__law_ring_wishes [(varE 0), (bin2 subD (varE 1) (conE (.int 2)))] (dfr n most N M way o5 (some w1)) s1 = .ok w2 s2 := (call2 rfl rfl ((bin_at rfl rfl).trans (sb s1)) rfl).trans e2
  have c3 := (call2 (F := F__law_beside) (a := varE 6) (x := w1) rfl W1.kept c2 W2.kept).trans e3
  have c4 := (call2 (F := F__law_renamed_wishes) (a := varE 0) (x := .ref n) rfl rfl c3 W3.kept).trans e4
  exact (seq_nx c0).trans (ret_at ((bin_at c4 rfl).trans ix_0))
noncomputable abbrev drT : S := (seqS (ifS (testE (bin2 (cmpD .Eq) (varE 4) (conE (.int 0)))) (retS (callE 3 F__law_cut_wishes [(varE 0), (varE 2), (varE 3)])) nopS)
    (seqS (ifS (testE (bin2 (cmpD .Eq) (varE 4) (conE (.int 1)))) (retS (callE 3 F__law_master_wishes [(varE 0), (varE 2), (varE 3)])) nopS)
    (seqS (ifS (testE (bin2 (cmpD .Eq) (varE 4) (conE (.int 2)))) (retS (callE 2 F__law_whole_wishes [(varE 0), (varE 2)])) nopS)
    (seqS (ifS (andT (testE (bin2 (cmpD .Eq) (varE 4) (conE (.int 3)))) (testE (bin2 (cmpD .Gt) (varE 1) (conE (.int 3))))) drW3 nopS)
    (seqS (ifS (andT (testE (bin2 (cmpD .Eq) (varE 4) (conE (.int 4)))) (testE (bin2 (cmpD .Gt) (varE 1) (conE (.int 3))))) drW4 nopS)
    (retS drW))))))
theorem dr_tail {most N M way : Nat} {o5 o6 : Option D} (hd : Dice st n) (hz : most ≤ 7) (N1 : 1 ≤ N) (N7 : N ≤ 7) (M1 : 1 ≤ M) (M7 : M ≤ 7) : ∃ d s', drT (dfr n most N M way o5 o6) st = .ok (.rt d) s' ∧ Drawn n st d s' := by
  have ty : ∀ c : Nat, way = c → testE (bin2 (cmpD .Eq) (varE 4) (conE (.int c))) (dfr n most N M way o5 o6) st = .ok true st := fun c e => (eq_test (i := way) rfl).trans (by rw [decide_eq_true (by omega)])
  have tn : ∀ c : Nat, way ≠ c → testE (bin2 (cmpD .Eq) (varE 4) (conE (.int c))) (dfr n most N M way o5 o6) st = .ok false st := fun c e => (eq_test (i := way) rfl).trans (by rw [decide_eq_false (by omega)])
  have gy : 3 < most → testE (bin2 (cmpD .Gt) (varE 1) (conE (.int 3))) (dfr n most N M way o5 o6) st = .ok true st := fun e => (gt_test (i := most) rfl).trans (by rw [decide_eq_true (by omega)])
  have gn : ¬ 3 < most → testE (bin2 (cmpD .Gt) (varE 1) (conE (.int 3))) (dfr n most N M way o5 o6) st = .ok false st := fun e => (gt_test (i := most) rfl).trans (by rw [decide_eq_false (by omega)])
  by_cases q0 : way = 0
  · have mm : N * M ≤ 7 * 7 := Nat.mul_le_mul (by omega) (by omega)
    obtain ⟨w, ls, rs, s, e, r, W⟩ := f_cut (N := N) (M := M) hd (by omega) (by omega)
    exact ⟨w, s, seq_rt ((if_yes (ty 0 q0)).trans (ret_at ((call3 rfl rfl rfl rfl rfl rfl).trans e))), .of (.of r) W (by omega) (by omega) (by omega) (by omega) (by omega)⟩
  have g0 := seq_nx (t := (seqS (ifS (testE (bin2 (cmpD .Eq) (varE 4) (conE (.int 1)))) (retS (callE 3 F__law_master_wishes [(varE 0), (varE 2), (varE 3)])) nopS)
    (seqS (ifS (testE (bin2 (cmpD .Eq) (varE 4) (conE (.int 2)))) (retS (callE 2 F__law_whole_wishes [(varE 0), (varE 2)])) nopS)
    (seqS (ifS (andT (testE (bin2 (cmpD .Eq) (varE 4) (conE (.int 3)))) (testE (bin2 (cmpD .Gt) (varE 1) (conE (.int 3))))) drW3 nopS)
    (seqS (ifS (andT (testE (bin2 (cmpD .Eq) (varE 4) (conE (.int 4)))) (testE (bin2 (cmpD .Gt) (varE 1) (conE (.int 3))))) drW4 nopS)
    (retS drW)))))) ((if_no (a := retS (callE 3 F__law_cut_wishes [(varE 0), (varE 2), (varE 3)])) (b := nopS) (tn 0 q0)).trans rfl)
  by_cases q1 : way = 1
  · obtain ⟨w, ls, rs, s, e, r, W⟩ := f_master (N := N) (M := M) hd (by omega) (by omega) (by omega)
    exact ⟨w, s, g0.trans (seq_rt ((if_yes (ty 1 q1)).trans (ret_at ((call3 rfl rfl rfl rfl rfl rfl).trans e)))), .of (.of r) W (by omega) (by omega) (by omega) (by omega) (by omega)⟩
  have g1 := g0.trans (seq_nx ((if_no (tn 1 q1)).trans rfl))
  by_cases q2 : way = 2
  · have mm : N * N ≤ 7 * 7 := Nat.mul_le_mul (by omega) (by omega)
    obtain ⟨w, ls, rs, s, e, r, W⟩ := f_whole (N := N) hd (by omega)
    exact ⟨w, s, g1.trans (seq_rt ((if_yes (ty 2 q2)).trans (ret_at ((call2 rfl rfl rfl rfl).trans e)))), .of (.of r) W (by omega) (by omega) (by omega) (by omega) (by omega)⟩
  have g2 := g1.trans (seq_nx ((if_no (tn 2 q2)).trans rfl))
  by_cases q3 : way = 3 ∧ 3 < most
  · obtain ⟨w, s, e, h⟩ := dr_3 (N := N) (M := M) (way := way) (o5 := o5) (o6 := o6) hd q3.2 hz
    exact ⟨w, s, g2.trans (seq_rt ((if_yes ((and_yes (ty 3 q3.1)).trans (gy q3.2))).trans e)), h⟩
  have n3 : andT (testE (bin2 (cmpD .Eq) (varE 4) (conE (.int 3)))) (testE (bin2 (cmpD .Gt) (varE 1) (conE (.int 3)))) (dfr n most N M way o5 o6) st = .ok false st := by
    by_cases z : way = 3
    · exact (and_yes (ty 3 z)).trans (gn fun y => q3 ⟨z, y⟩)
    · exact and_no (tn 3 z)
  have g3 := g2.trans (seq_nx ((if_no n3).trans rfl))
  by_cases q4 : way = 4 ∧ 3 < most
  · obtain ⟨w, s, e, h⟩ := dr_4 (N := N) (M := M) (way := way) (o5 := o5) (o6 := o6) hd q4.2 hz
    exact ⟨w, s, g3.trans (seq_rt ((if_yes ((and_yes (ty 4 q4.1)).trans (gy q4.2))).trans e)), h⟩
  have n4 : andT (testE (bin2 (cmpD .Eq) (varE 4) (conE (.int 4)))) (testE (bin2 (cmpD .Gt) (varE 1) (conE (.int 3)))) (dfr n most N M way o5 o6) st = .ok false st := by
    by_cases z : way = 4
    · exact (and_yes (ty 4 z)).trans (gn fun y => q4 ⟨z, y⟩)
    · exact and_no (tn 4 z)
  have g4 := g3.trans (seq_nx ((if_no n4).trans rfl))
  obtain ⟨w, s, e, h⟩ := dr_last (most := most) (M := M) (way := way) (o5 := o5) (o6 := o6) hd N1 N7
  exact ⟨w, s, g4.trans (ret_at e), h⟩
theorem f_drawn {most : Nat} (hd : Dice st n) (h1 : 1 ≤ most) (hz : most ≤ 7) : ∃ d N M ls rs st', F__law_drawn_wishes [.ref n, .int most] st = .ok d st' ∧ Rolled n st st' ∧ Wi 60 N M d ls rs ∧ 1 ≤ N ∧ 1 ≤ M ∧ N ≤ 14 ∧ M ≤ 14 := by
  have hn := hd.lt
  obtain ⟨a, s1, e1, r1, l1⟩ := call_roll (fr := [some (.ref n), some (.int most), none, none, none, none, none]) (e := varE 1) (t := (most : Int)) rfl rfl hd (by omega) (by omega)
  obtain ⟨b, s2, e2, r2, l2⟩ := call_roll (fr := [some (.ref n), some (.int most), none, none, none, none, none]) (e := varE 1) (t := (most : Int)) rfl rfl (r1.dice hd) (by omega) (by omega)
  obtain ⟨c, s3, e3, r3, l3⟩ := call_roll (fr := [some (.ref n), some (.int most), none, none, none, none, none]) (e := conE (.int 7)) (t := 7) rfl rfl (r2.dice (r1.dice hd)) (by omega) (by omega)
  have ad : ∀ (x : Nat) (s : Sto), addD (.int 1) (.int x) s = .ok (.int ((1 + x : Nat) : Int)) s := fun x s => by
    show R.ok (D.int (1 + (x : Int))) s = _
    rw [show ((1 + x : Nat) : Int) = 1 + (x : Int) by omega]
  have q := asg_three (i := 2) (j := 3) (k := 4) (tup_three ((bin_at (a := conE (.int 1)) (x := .int 1) (f := addD) rfl e1).trans (ad a s1)) rfl ((bin_at (a := conE (.int 1)) (x := .int 1) (f := addD) rfl e2).trans (ad b s2)) rfl e3 rfl) rfl rfl rfl
  have r := (r1.trans r2).trans r3
  obtain ⟨d, s4, e4, a4, N, M, ls, rs, W, h⟩ := dr_tail (most := most) (N := 1 + a) (M := 1 + b) (way := c) (o5 := none) (o6 := none) (r.dice hd) hz (by omega) (by omega) (by omega) (by omega)
  obtain ⟨st', e5, r5⟩ := fn_aft (N := 2) (m := 5) (body := B__law_drawn_wishes) (ds := [.ref n, .int most]) (st := st) rfl ((seq_nx q).trans e4) ((Aft.of r).trans hn a4) W.low
  exact ⟨d, N, M, ls, rs, st', e5, r5, W, h⟩
end
end Law
set_option Elab.async false
set_option linter.all false
set_option maxRecDepth 100000
set_option maxHeartbeats 4000000
namespace Law
open PySem Ev
/-! ### the texts of faults -/
def okP (d : PyData) : Bool := d.showable && small d.shown.length && decide (d.depth ≤ 65)
theorem ok_left : ((List.range 41).all fun p => (List.range 41).all fun o => okP (.tuple [.str "left", .int p, .int o])) = true := by decide +kernel
theorem ok_right : ((List.range 41).all fun p => (List.range 41).all fun o => okP (.tuple [.str "right", .int p, .int o])) = true := by decide +kernel
theorem repr_ok {d : D} {p : PyData} {st : Sto} (h : toPy st 65 d = some p) (k : okP p = true) : ∃ t, reprD d st = .ok (.str t) st := by
  refine ⟨p.shown, ?_⟩
  unfold reprD
  rw [h]
  exact if_pos k
theorem two_all {f : Nat → Nat → Bool} (h : ((List.range 41).all fun p => (List.range 41).all fun o => f p o) = true) {p o : Nat} (hp : p < 41) (ho : o < 41) : f p o = true :=
  List.all_eq_true.mp (List.all_eq_true.mp h p (List.mem_range.mpr hp)) o (List.mem_range.mpr ho)
theorem scanRow_at {side : Str} {p : Int} {others : List D} {d : D} : ∀ {ys : List D}, (∀ y ∈ ys, ∃ o : Nat, y = .int o ∧ o < others.length) → scanRow side p others ys = some d → ∃ o : Nat, d = .tup [.str side, .int p, .int o] ∧ o < others.length
  | [], _, h => by cases h
  | y :: ys, hy, h => by
    unfold scanRow at h
    split at h
    · exact scanRow_at (fun z m => hy z (List.mem_cons_of_mem _ m)) h
    · cases h
      obtain ⟨o, rfl, ho⟩ := hy y List.mem_cons_self
      exact ⟨o, rfl, ho⟩
theorem scanRows_at {side : Str} {others : List D} {d : D} : ∀ {rows : List D} {p : Nat}, Rows others.length rows → scanRows side others (p : Int) rows = some d → ∃ q o : Nat, d = .tup [.str side, .int q, .int o] ∧ q < p + rows.length ∧ o < others.length
  | [], _, _, h => by cases h
  | row :: rows, p, hr, h => by
    obtain ⟨ys, rfl, hy⟩ := hr row List.mem_cons_self
    rw [scanRows_cons] at h
    cases q : scanRow side (p : Int) others ys with
    | some d' =>
      rw [q] at h
      cases h
      obtain ⟨o, e, ho⟩ := scanRow_at hy q
      exact ⟨p, o, e, by simp, ho⟩
    | none =>
      rw [q] at h
      have h' : scanRows side others ((p + 1 : Nat) : Int) rows = some d := by
        rw [show ((p + 1 : Nat) : Int) = (p : Int) + 1 by omega]
        exact h
      obtain ⟨q, o, e, l, ho⟩ := scanRows_at (fun r m => hr r (List.mem_cons_of_mem _ m)) h'
      exact ⟨q, o, e, by simp; omega, ho⟩
theorem form_len {ls rs : List D} (h : formB (.tup [.tup ls, .tup rs]) = true) : ls.length ≤ 40 ∧ rs.length ≤ 40 := by
  have fb : formB (.tup [.tup ls, .tup rs]) = (sideB (.tup ls) rs.length && sideB (.tup rs) ls.length) := rfl
  rw [fb] at h
  simp only [sideB, Bool.and_eq_true, decide_eq_true_eq] at h
  exact ⟨h.1.1.2, h.2.1.2⟩
theorem repr_fault (v : D) (st : Sto) : ∃ t, reprD (faultD v) st = .ok (.str t) st := by
  unfold faultD
  split
  · rename_i q
    obtain ⟨ls, rs, rfl, h1, h2⟩ := form_sides q
    obtain ⟨z1, z2⟩ := form_len q
    show ∃ t, reprD (match scanRows "left" rs 0 ls with
      | some d => d
      | none => match scanRows "right" ls 0 rs with
        | some d => d
        | none => D.non : D) st = .ok (.str t) st
    split
    · rename_i e
      obtain ⟨p, o, rfl, hp, ho⟩ := scanRows_at (p := 0) h1 e
      exact repr_ok (p := .tuple [.str "left", .int p, .int o]) rfl (two_all (f := fun p o => okP (.tuple [.str "left", .int p, .int o])) ok_left (by omega) (by omega))
    · split
      · rename_i e
        obtain ⟨p, o, rfl, hp, ho⟩ := scanRows_at (p := 0) h2 e
        exact repr_ok (p := .tuple [.str "right", .int p, .int o]) rfl (two_all (f := fun p o => okP (.tuple [.str "right", .int p, .int o])) ok_right (by omega) (by omega))
      · exact repr_ok (p := .none) rfl (by decide +kernel)
  · exact repr_ok (p := .tuple [.str "form"]) rfl (by decide +kernel)
theorem repr_bl (b : Bool) (st : Sto) : ∃ t, reprD (.bl b) st = .ok (.str t) st := by
  refine repr_ok (p := .bool b) rfl ?_
  cases b <;> decide +kernel
theorem ne_text {t : Str} {st : Sto} : cmpD .NotEq (.str t) (.str t) st = .ok (.bl false) st := by
  show neD (.str t) (.str t) st = _
  unfold neD eqStr
  simp
end Law
set_option Elab.async false
set_option linter.all false
set_option maxRecDepth 100000
set_option maxHeartbeats 4000000
namespace Law
open PySem Ev
/-! ### values near wishes -/
/-- types of cells stay -/
def SameT (st st' : Sto) : Prop := ∀ i T, Ev.typeName st (.ref i) = some T → Ev.typeName st' (.ref i) = some T
theorem ty_same {st st' : Sto} (h : SameT st st') {d : D} {T : String} (e : Ev.typeName st d = some T) : Ev.typeName st' d = some T := by
  cases d with
  | ref i => exact h i T e
  | _ => exact e
def kindC (c : Cell) : Option String := match c.bare with
  | .lst _ => some "list"
  | .dct _ => some "dict"
  | _ => none
theorem ty_ref {st : Sto} {i : Nat} : Ev.typeName st (.ref i) = st[i]?.bind kindC := by
  show (match (st[i]?).map Cell.bare with
    | some (.lst _) => some "list"
    | some (.dct _) => some "dict"
    | _ => none) = _
  cases st[i]? with
  | none => rfl
  | some c => cases c with
    | lck c => cases c <;> rfl
    | _ => rfl
theorem same_of {st st' : Sto} (h : ∀ (i : Nat) (c : Cell), st[i]? = some c → ∃ c', st'[i]? = some c' ∧ kindC c' = kindC c) : SameT st st' := fun i T e => by
  rw [ty_ref] at e ⊢
  cases q : st[i]? with
  | none => rw [q] at e; cases e
  | some c =>
    rw [q] at e
    obtain ⟨c', e', k⟩ := h i c q
    rw [e']
    exact (k.trans e : kindC c' = some T)
theorem SameT.refl {st : Sto} : SameT st st := fun _ _ e => e
theorem SameT.trans {a b c : Sto} (h : SameT a b) (k : SameT b c) : SameT a c := fun i T e => k i T (h i T e)
theorem SameT.app {st more : Sto} : SameT st (st ++ more) := same_of fun i c e => ⟨c, cell_app e, rfl⟩
theorem SameT.set {st : Sto} {k : Nat} {c c' : Cell} (h : st[k]? = some c) (e : kindC c' = kindC c) : SameT st (st.set k c') := same_of fun i x hx => by
  by_cases q : k = i
  · subst q
    rw [h] at hx
    cases hx
    exact ⟨c', List.getElem?_set_self (cell_lt h), e⟩
  · exact ⟨x, by rw [List.getElem?_set_ne q]; exact hx, rfl⟩
theorem SameT.aft {n : Nat} {st st' : Sto} (h : Aft n st st') (hd : Dice st n) : SameT st st' := by
  obtain ⟨a, b, c, new, rfl⟩ := h
  obtain ⟨x, y, z, e⟩ := hd
  exact (SameT.set (c' := .lst [.int a, .int b, .int c]) e rfl).trans .app
/-- as Vd, but what lies inmost is plain at every store -/
def Vp : Nat → Sto → D → Prop
  | 0, _, v => ∀ s, Vd 0 s v
  | n + 1, st, v => ((∃ T, Ev.typeName st v = some T) ∧ v.kept = true ∧ ∀ xs, v ≠ .row xs) ∧ ∀ xs, v = .tup xs → ∀ x ∈ xs, Vp n st x
theorem Vp.vd : ∀ {n : Nat} {st : Sto} {v : D}, Vp n st v → Vd n st v
  | 0, st, v, h => h st
  | n + 1, st, v, h => ⟨h.1, fun xs e x m => (h.2 xs e x m).vd⟩
theorem Vp.same {st st' : Sto} (s : SameT st st') : ∀ {n : Nat} {v : D}, Vp n st v → Vp n st' v
  | 0, v, h => h
  | n + 1, v, h => ⟨⟨let ⟨T, e⟩ := h.1.1; ⟨T, ty_same s e⟩, h.1.2⟩, fun xs e x m => (h.2 xs e x m).same s⟩
theorem Vp.int {n : Nat} {st : Sto} {i : Int} : Vp n st (.int i) := by
  cases n with
  | zero => exact fun s => ⟨⟨⟨_, rfl⟩, rfl, nofun⟩, .int i, rfl, by simp [PyData.canLay0], by simp [PyData.depth]⟩
  | succ n => exact ⟨⟨⟨_, rfl⟩, rfl, nofun⟩, nofun⟩
theorem Vp.bl {n : Nat} {st : Sto} {i : Bool} : Vp n st (.bl i) := by
  cases n with
  | zero => exact fun s => ⟨⟨⟨_, rfl⟩, rfl, nofun⟩, .bool i, rfl, by simp [PyData.canLay0], by simp [PyData.depth]⟩
  | succ n => exact ⟨⟨⟨_, rfl⟩, rfl, nofun⟩, nofun⟩
theorem Vp.non {n : Nat} {st : Sto} : Vp n st .non := by
  cases n with
  | zero => exact fun s => ⟨⟨⟨_, rfl⟩, rfl, nofun⟩, .none, rfl, by simp [PyData.canLay0], by simp [PyData.depth]⟩
  | succ n => exact ⟨⟨⟨_, rfl⟩, rfl, nofun⟩, nofun⟩
theorem Vp.str {n : Nat} {st : Sto} {t : Str} (h : (PyData.str t).canLay0 = true) : Vp n st (.str t) := by
  cases n with
  | zero => exact fun s => ⟨⟨⟨_, rfl⟩, rfl, nofun⟩, .str t, rfl, h, by simp [PyData.depth]⟩
  | succ n => exact ⟨⟨⟨_, rfl⟩, rfl, nofun⟩, nofun⟩
theorem Vp.tup {n : Nat} {st : Sto} {xs : List D} (h : ∀ x ∈ xs, Vp n st x) : Vp (n + 1) st (.tup xs) := ⟨⟨⟨_, rfl⟩, rfl, nofun⟩, fun ys e => by cases e; exact h⟩
theorem Vp.ref {n k : Nat} {st : Sto} {c : Cell} {T : String} (h : st[k]? = some c) (e : kindC c = some T) : Vp (n + 1) st (.ref k) := ⟨⟨⟨T, by rw [ty_ref, h]; exact e⟩, rfl, nofun⟩, nofun⟩
theorem ints_plain {s : Sto} : ∀ ys : List D, (∀ y ∈ ys, ∃ i, y = .int i) → ∃ ps, optAll (toPy s 63) ys = some ps ∧ PyData.canLayAll0 ps = true ∧ PyData.depthAll ps ≤ 3
  | [], _ => ⟨[], rfl, rfl, by simp [PyData.depthAll]⟩
  | y :: ys, h => by
    obtain ⟨i, rfl⟩ := h y List.mem_cons_self
    obtain ⟨ps, e1, e2, e3⟩ := ints_plain ys fun z m => h z (List.mem_cons_of_mem _ m)
    refine ⟨.int i :: ps, ?_, ?_, ?_⟩
    · unfold optAll
      rw [e1]
      rfl
    · simp [PyData.canLayAll0, PyData.canLay0, e2]
    · simp only [PyData.depthAll, PyData.depth]
      omega
theorem Vp.row {st : Sto} {ys : List D} (h : ∀ y ∈ ys, ∃ i, y = .int i) : ∀ {n : Nat}, Vp n st (.tup ys)
  | 0 => fun s => by
    obtain ⟨ps, e1, e2, e3⟩ := ints_plain (s := s) ys h
    refine ⟨⟨⟨_, rfl⟩, rfl, nofun⟩, .tuple ps, ?_, ?_, ?_⟩
    · show (optAll (toPy s 63) ys).map PyData.tuple = _
      rw [e1]
      rfl
    · simp [PyData.canLay0, e2]
    · simp only [PyData.depth]
      omega
  | n + 1 => .tup fun y m => by
    obtain ⟨i, rfl⟩ := h y m
    exact .int
theorem Rw.vp {B m n : Nat} {st : Sto} {rows : List D} (h : Rw B m rows) : ∀ r ∈ rows, Vp n st r := fun r hr => by
  obtain ⟨ys, rfl, _, hy⟩ := h r hr
  exact .row fun y m => by
    obtain ⟨o, rfl, _⟩ := hy y m
    exact ⟨o, rfl⟩
end Law
set_option Elab.async false
set_option linter.all false
set_option maxRecDepth 100000
set_option maxHeartbeats 4000000
namespace Law
open PySem Ev
theorem allS_k {e : Ex} {es : List Ex} {fr : Fr} {s s1 s2 : Sto} {d : D} {ds : List D} (h : e fr s = .ok d s1) (hd : d.kept = true) (k : allS es fr s1 = .ok ds s2) : allS (e :: es) fr s = .ok (d :: ds) s2 := by
  simp only [allS_cons, h, bnd_ok, settle_kept hd, bnd_app, k, ret_app]
theorem allS_t {e : Ex} {es : List Ex} {fr : Fr} {s s1 s2 : Sto} {c : Cell} {ds : List D} (h : e fr s = .ok (.tmp c) s1) (k : allS es fr (s1 ++ [c]) = .ok ds s2) : allS (e :: es) fr s = .ok (.ref s1.length :: ds) s2 := by
  simp only [allS_cons, h, bnd_ok, settle_tmp, bnd_app, k, ret_app]
theorem lst_at {es : List Ex} {fr : Fr} {s s1 : Sto} {ds : List D} (h : allS es fr s = .ok ds s1) : lstE es fr s = .ok (.tmp (.lst ds)) s1 := by
  show (allS es fr s).bnd _ = _
  rw [h]
  rfl
theorem tup_at {es : List Ex} {fr : Fr} {s s1 : Sto} {ds : List D} (h : allS es fr s = .ok ds s1) : tupE es fr s = .ok (.tup ds) s1 := by
  show (allS es fr s).bnd _ = _
  rw [h]
  rfl
theorem add_tmp {k : Nat} {L R : List D} {s : Sto} (h : s[k]? = some (.lst L)) (hz : L.length + R.length ≤ 1000) : addD (.ref k) (.tmp (.lst R)) s = .ok (.tmp (.lst (L ++ R))) s := by
  show (match (s[k]?).map Cell.bare, some (Cell.lst R) with
    | some (.lst as), some (.lst bs) => if small (as.length + bs.length) = true then Ev.R.ok (D.tmp (.lst (as ++ bs))) s else Ev.R.stuck
    | _, _ => Ev.R.stuck) = _
  rw [h]
  exact if_pos (decide_eq_true (small_of hz))
theorem cut_mem {xs : List D} {a b : Option Int} {x : D} (h : x ∈ cut xs a b) : x ∈ xs := List.mem_of_mem_drop (List.mem_of_mem_take h)
theorem cut_len {xs : List D} {a b : Option Int} : (cut xs a b).length ≤ xs.length := by
  unfold cut
  rw [List.length_take, List.length_drop]
  omega
/-- what may stand in the place of a row: a fresh list at L, or a plain thing -/
def Opt (L : Nat) (x : D) : Prop := x = .ref L ∨ ((∀ k, x.lower k = true) ∧ (∀ s, Vp 1 s x) ∧ x.kept = true)
theorem Opt.row {L : Nat} {ys : List D} (h : ∀ y ∈ ys, ∃ i, y = .int i) : Opt L (.tup ys) := .inr ⟨fun k => lowerAll_iff.mpr fun y m => by
    obtain ⟨i, rfl⟩ := h y m
    rfl, fun s => .row h, rfl⟩
theorem Opt.more {L : Nat} {ys : List D} {z : D} (h : ∀ y ∈ ys, ∃ i, y = .int i) (hz : ∀ k, z.lower k = true) (v : ∀ s, Vp 0 s z) : Opt L (.tup (ys ++ [z])) := .inr ⟨fun k => lowerAll_iff.mpr fun y m => by
    rcases List.mem_append.mp m with m | m
    · obtain ⟨i, rfl⟩ := h y m
      rfl
    · rw [List.mem_singleton.mp m]
      exact hz k, fun s => .tup fun y m => by
    rcases List.mem_append.mp m with m | m
    · obtain ⟨i, rfl⟩ := h y m
      exact .int
    · rw [List.mem_singleton.mp m]
      exact v s, rfl⟩
def bentD (y : D) : D := match y with
  | .int o => if o < 2 then .bl (decide (o = 1)) else .int o
  | _ => .non
theorem Opt.bent {L : Nat} {ys : List D} (h : ∀ y ∈ ys, ∃ i, y = .int i) : Opt L (.tup (ys.map bentD)) := .inr ⟨fun k => lowerAll_iff.mpr fun y m => by
    obtain ⟨y', m', rfl⟩ := List.mem_map.mp m
    obtain ⟨i, rfl⟩ := h y' m'
    show (if i < 2 then D.bl (decide (i = 1)) else .int i).lower k = true
    split <;> rfl, fun s => .tup fun y m => by
    obtain ⟨y', m', rfl⟩ := List.mem_map.mp m
    obtain ⟨i, rfl⟩ := h y' m'
    show Vp 0 s (if i < 2 then D.bl (decide (i = 1)) else .int i)
    split
    · exact .bl
    · exact .int, rfl⟩
section
variable {n : Nat} {st : Sto}
abbrev bfr (n : Nat) (w : D) (side : Int) (o3 o4 o5 o6 o7 : Option D) : Fr := [some (.ref n), some w, some (.int side), o3, o4, o5, o6, o7, none]
noncomputable abbrev some8 : Ex := (lstE [(sliceE (varE 6) (some (conE (.int 1))) none), (sliceE (varE 6) none (some (un1 negD (conE (.int 1))))), (bin2 addD (varE 6) (sliceE (varE 6) none (some (conE (.int 1))))), (un1 revD (varE 6)), (bin2 addD (varE 6) (tupE [(varE 4)])), (bin2 addD (varE 6) (tupE [(un1 negD (conE (.int 1)))])), (un1 listD (varE 6)), (conE .non)])
theorem some8_at {w : D} {side : Int} {o3 o5 o7 : Option D} {m : Nat} {ys : List D} {s : Sto} (hz : ys.length ≤ 100) (hi : ∀ y ∈ ys, ∃ i, y = .int i) :
    ∃ ds, some8 (bfr n w side o3 (some (.int m)) o5 (some (.tup ys)) o7) s = .ok (.tmp (.lst ds)) (s ++ [.lst ys]) ∧ ds.length = 8 ∧ ∀ d ∈ ds, Opt s.length d := by
  have e1 : sliceE (varE 6) (some (conE (.int 1))) none (bfr n w side o3 (some (.int m)) o5 (some (.tup ys)) o7) s = .ok (.tup (cut ys (some 1) none)) s := rfl
  have e2 : sliceE (varE 6) none (some (un1 negD (conE (.int 1)))) (bfr n w side o3 (some (.int m)) o5 (some (.tup ys)) o7) s = .ok (.tup (cut ys none (some (-1)))) s := rfl
  have e3 : sliceE (varE 6) none (some (conE (.int 1))) (bfr n w side o3 (some (.int m)) o5 (some (.tup ys)) o7) s = .ok (.tup (cut ys none (some 1))) s := rfl
  have z3 : (cut ys none (some 1)).length ≤ ys.length := cut_len
  have a3 : addD (.tup ys) (.tup (cut ys none (some 1))) s = .ok (.tup (ys ++ cut ys none (some 1))) s := add_tup (by omega)
  have a5 : addD (.tup ys) (.tup [.int m]) s = .ok (.tup (ys ++ [.int m])) s := add_tup (by simp; omega)
  have a6 : addD (.tup ys) (.tup [.int (-1)]) s = .ok (.tup (ys ++ [.int (-1)])) s := add_tup (by simp; omega)
  have v6 : varE 6 (bfr n w side o3 (some (.int m)) o5 (some (.tup ys)) o7) s = .ok (.tup ys) s := rfl
  have e5 : tupE [(varE 4)] (bfr n w side o3 (some (.int m)) o5 (some (.tup ys)) o7) s = .ok (.tup [.int m]) s := rfl
  have e6 : tupE [(un1 negD (conE (.int 1)))] (bfr n w side o3 (some (.int m)) o5 (some (.tup ys)) o7) s = .ok (.tup [.int (-1)]) s := rfl
  refine ⟨[.tup (cut ys (some 1) none), .tup (cut ys none (some (-1))), .tup (ys ++ cut ys none (some 1)), .tup ys.reverse, .tup (ys ++ [.int m]), .tup (ys ++ [.int (-1)]), .ref s.length, .non],
    lst_at (allS_k e1 rfl (allS_k e2 rfl (allS_k ((bin_at v6 e3).trans a3) rfl (allS_k (un_at v6) rfl (allS_k ((bin_at v6 e5).trans a5) rfl (allS_k ((bin_at v6 e6).trans a6) rfl (allS_t (un_at v6) (allS_k rfl rfl rfl)))))))), rfl, fun d hd => ?_⟩
  simp only [List.mem_cons, List.not_mem_nil, or_false] at hd
  rcases hd with rfl | rfl | rfl | rfl | rfl | rfl | rfl | rfl
  · exact .row fun y m => hi y (cut_mem m)
  · exact .row fun y m => hi y (cut_mem m)
  · refine .row fun y m => ?_
    rcases List.mem_append.mp m with m | m
    · exact hi y m
    · exact hi y (cut_mem m)
  · exact .row fun y m => hi y (List.mem_reverse.mp m)
  · exact .more hi (fun _ => rfl) fun _ => .int
  · exact .more hi (fun _ => rfl) fun _ => .int
  · exact .inl rfl
  · exact .inr ⟨fun _ => rfl, fun _ => .non, rfl⟩
noncomputable abbrev some2 : Ex := (lstE [(bin2 addD (varE 6) (tupE [(callE 2 F__law_roll [(varE 0), (varE 4)])])), (un1 tupleD (lcE [8] (seqI (varE 6)) (setT 8) [] (ifE (testE (bin2 (cmpD .Lt) (varE 8) (conE (.int 2)))) (bin2 (cmpD .Eq) (varE 8) (conE (.int 1))) (varE 8))))])
theorem some2_at {w : D} {side : Int} {o3 o5 o7 : Option D} {m L : Nat} {ys : List D} {s : Sto} (hd : Dice s n) (hm : 0 < m) (zm : m ≤ 1000) (hz : ys.length ≤ 100) (hi : ∀ y ∈ ys, ∃ i, y = .int i) :
    ∃ ds s', some2 (bfr n w side o3 (some (.int m)) o5 (some (.tup ys)) o7) s = .ok (.tmp (.lst ds)) s' ∧ Rolled n s s' ∧ ds.length = 2 ∧ ∀ d ∈ ds, Opt L d := by
  obtain ⟨t, s1, e1, r1, _⟩ := call_roll (fr := bfr n w side o3 (some (.int m)) o5 (some (.tup ys)) o7) (e := varE 4) (t := (m : Int)) rfl rfl hd (by omega) (by omega)
  have e2 : tupE [(callE 2 F__law_roll [(varE 0), (varE 4)])] (bfr n w side o3 (some (.int m)) o5 (some (.tup ys)) o7) s = .ok (.tup [.int t]) s1 := tup_at (allS_k e1 rfl rfl)
  have a2 : addD (.tup ys) (.tup [.int t]) s1 = .ok (.tup (ys ++ [.int t])) s1 := add_tup (by simp; omega)
  have v6 : varE 6 (bfr n w side o3 (some (.int m)) o5 (some (.tup ys)) o7) s = .ok (.tup ys) s := rfl
  have lc : lcE [8] (seqI (varE 6)) (setT 8) [] (ifE (testE (bin2 (cmpD .Lt) (varE 8) (conE (.int 2)))) (bin2 (cmpD .Eq) (varE 8) (conE (.int 1))) (varE 8)) (bfr n w side o3 (some (.int m)) o5 (some (.tup ys)) o7) s1 = .ok (.tmp (.lst (ys.map bentD))) s1 := by
    refine lcE_map (ns := []) (st1 := s1) (fr1 := fun y => [some (.ref n), some w, some (.int side), o3, some (.int m), o5, some (.tup ys), o7, some y]) rfl (fun y hy => ?_) (fun y hy => ?_)
    · obtain ⟨i, rfl⟩ := hi y hy
      rfl
    · obtain ⟨i, rfl⟩ := hi y hy
      have t : testE (bin2 (cmpD .Lt) (varE 8) (conE (.int 2))) [some (.ref n), some w, some (.int side), o3, some (.int m), o5, some (.tup ys), o7, some (.int i)] s1 = .ok (decide (i < 2)) s1 := test_at ((bin_at (x := .int i) (y := .int 2) rfl rfl).trans rfl)
      by_cases q : i < 2
      · have b : bentD (.int i) = .bl (decide (i = 1)) := if_pos q
        rw [b]
        rw [decide_eq_true q] at t
        exact ⟨(ife_yes t).trans ((bin_at (y := .int 1) rfl rfl).trans (show cmpD .Eq (.int i) (.int 1) s1 = _ from eqD_int)), rfl⟩
      · have b : bentD (.int i) = .int i := if_neg q
        rw [b]
        rw [decide_eq_false q] at t
        exact ⟨(ife_no t).trans rfl, rfl⟩
  refine ⟨[.tup (ys ++ [.int t]), .tup (ys.map bentD)], s1, lst_at (allS_k ((bin_at v6 e2).trans a2) rfl (allS_k ((un_at lc).trans rfl) rfl rfl)), r1, rfl, fun d hd => ?_⟩
  simp only [List.mem_cons, List.not_mem_nil, or_false] at hd
  rcases hd with rfl | rfl
  · exact .more hi (fun _ => rfl) fun _ => .int
  · exact .bent hi
noncomputable abbrev some3 : Ex := (lstE [(bin2 addD (varE 6) (tupE [(conE (.str "0"))])), (bin2 addD (varE 6) (tupE [(conE .non)])), (tupE [(varE 6)])])
theorem some3_at {w : D} {side : Int} {o3 o4 o5 o7 : Option D} {L : Nat} {ys : List D} {s : Sto} (hz : ys.length ≤ 100) (hi : ∀ y ∈ ys, ∃ i, y = .int i) :
    ∃ ds, some3 (bfr n w side o3 o4 o5 (some (.tup ys)) o7) s = .ok (.tmp (.lst ds)) s ∧ ds.length = 3 ∧ ∀ d ∈ ds, Opt L d := by
  have a1 : addD (.tup ys) (.tup [.str "0"]) s = .ok (.tup (ys ++ [.str "0"])) s := add_tup (by simp; omega)
  have a2 : addD (.tup ys) (.tup [.non]) s = .ok (.tup (ys ++ [.non])) s := add_tup (by simp; omega)
  have v6 : varE 6 (bfr n w side o3 o4 o5 (some (.tup ys)) o7) s = .ok (.tup ys) s := rfl
  refine ⟨[.tup (ys ++ [.str "0"]), .tup (ys ++ [.non]), .tup [.tup ys]], lst_at (allS_k ((bin_at v6 (tup_at (allS_k rfl rfl rfl))).trans a1) rfl (allS_k ((bin_at v6 (tup_at (allS_k rfl rfl rfl))).trans a2) rfl (allS_k (tup_at (allS_k v6 rfl rfl)) rfl rfl))), rfl, fun d hd => ?_⟩
  simp only [List.mem_cons, List.not_mem_nil, or_false] at hd
  rcases hd with rfl | rfl | rfl
  · exact .more hi (fun _ => rfl) fun _ => .str (by decide +kernel)
  · exact .more hi (fun _ => rfl) fun _ => .non
  · refine .inr ⟨fun k => ?_, fun s => .tup fun y m => ?_, rfl⟩
    · show ((D.tup ys).lower k && true) = true
      rw [Bool.and_true]
      exact lowerAll_iff.mpr fun y m => by
        obtain ⟨i, rfl⟩ := hi y m
        rfl
    · rw [List.mem_singleton.mp m]
      exact .row hi
end
end Law
set_option Elab.async false
set_option linter.all false
set_option maxRecDepth 100000
set_option maxHeartbeats 4000000
namespace Law
open PySem Ev
section
variable {n : Nat} {st : Sto}
noncomputable abbrev bent2 (t : S) : S := (seqS (asgS (tupT [(setT 3), (setT 4)]) (tupE [(un1 listD (bin2 ixD (varE 1) (varE 2))), (un1 lenD (bin2 ixD (varE 1) (bin2 subD (conE (.int 1)) (varE 2))))]))
    (seqS (asgS (setT 5) (callE 2 F__law_roll [(varE 0), (un1 lenD (varE 3))]))
    (seqS (asgS (setT 6) (bin2 ixD (varE 3) (varE 5)))
    (seqS (asgS (setT 7) some8)
    (seqS (asgS (setT 7) (bin2 addD (varE 7) some2))
    (seqS (asgS (setT 7) (bin2 addD (varE 7) some3))
    (seqS (asgS (subT (varE 3) (varE 5)) (callE 2 F__law_pick [(varE 0), (varE 7)])) t)))))))
theorem bent_core {w : D} {side : Int} {A R : List D} {B m : Nat} {t : S} (hd : Dice st n) (hA : ∀ s, ixD w (.int side) s = .ok (.tup A) s) (hR : ∀ s, ixD w (.int (1 - side)) s = .ok (.tup R) s) (rA : Rw B m A) (n1 : 1 ≤ A.length) (n2 : A.length ≤ 30) (nR : R.length = m) (m1 : 1 ≤ m) (m2 : m ≤ 30) (hB : B ≤ 100) :
    ∃ s' k3 j x L o4 o5 o6 o7, bent2 t (bfr n w side none none none none none) st = t (bfr n w side (some (.ref k3)) o4 o5 o6 o7) s' ∧ Aft n st s' ∧ s'[k3]? = some (.lst (A.set j x)) ∧ j < A.length ∧ st.length ≤ L ∧ Opt L x ∧ ∃ ys, s'[L]? = some (.lst ys) := by
  have hn := hd.lt
  have e1 : un1 listD (bin2 ixD (varE 1) (varE 2)) (bfr n w side none none none none none) st = .ok (.tmp (.lst A)) st := (un_at ((bin_at rfl rfl).trans (hA st))).trans rfl
  have e2 : ∀ s, un1 lenD (bin2 ixD (varE 1) (bin2 subD (conE (.int 1)) (varE 2))) (bfr n w side none none none none none) s = .ok (.int m) s := fun s => (un_at ((bin_at (y := .int (1 - side)) rfl rfl).trans (hR s))).trans (by rw [← nR]; rfl)
  have q2 : asgS (tupT [(setT 3), (setT 4)]) (tupE [(un1 listD (bin2 ixD (varE 1) (varE 2))), (un1 lenD (bin2 ixD (varE 1) (bin2 subD (conE (.int 1)) (varE 2))))]) (bfr n w side none none none none none) st = .ok (.nx (bfr n w side (some (.ref st.length)) (some (.int m)) none none none)) (st ++ [.lst A]) :=
    asg_two (tup_at (allS_t e1 (allS_k (e2 _) rfl rfl))) rfl rfl
  have a1 := (Aft.refl hd).grow [.lst A]
  have c1 : (st ++ [Cell.lst A])[st.length]? = some (.lst A) := cell_new
  obtain ⟨j, s2, e3, r2, lt⟩ := call_roll (fr := bfr n w side (some (.ref st.length)) (some (.int m)) none none none) (e := un1 lenD (varE 3)) (t := (A.length : Int)) rfl ((un_at rfl).trans (len_cell c1)) (a1.dice hn) (by omega) (by omega)
  have hj : j < A.length := by omega
  have a2 := a1.roll hn r2
  have c2 := r2.cell (by omega) c1
  obtain ⟨ys, ey, yl, yn⟩ := rA _ (List.getElem_mem hj)
  have e4 : bin2 ixD (varE 3) (varE 5) (bfr n w side (some (.ref st.length)) (some (.int m)) (some (.int j)) none none) s2 = .ok (.tup ys) s2 := (bin_at rfl rfl).trans (by
    rw [← ey]
    refine ix_cell c2 ?_
    unfold L2.atI
    rw [ixN_nat hj]
    simp [hj])
  have hi : ∀ y ∈ ys, ∃ i, y = .int i := fun y hy => by
    obtain ⟨o, e, _⟩ := yn y hy
    exact ⟨o, e⟩
  obtain ⟨D8, e5, l8, p8⟩ := some8_at (n := n) (w := w) (side := side) (o3 := some (.ref st.length)) (o5 := some (.int j)) (o7 := none) (m := m) (s := s2) (by omega) hi
  have l2 := r2.len
  rw [List.length_append, List.length_singleton] at l2
  have a3 := (a2.grow [.lst ys]).grow [.lst D8]
  have c7 : ((s2 ++ [Cell.lst ys]) ++ [Cell.lst D8])[(s2 ++ [Cell.lst ys]).length]? = some (.lst D8) := cell_new
  have l3 : (s2 ++ [Cell.lst ys]).length = s2.length + 1 := by rw [List.length_append]; rfl
  obtain ⟨D2, s4, e6, r4, l22, p2⟩ := some2_at (n := n) (w := w) (side := side) (o3 := some (.ref st.length)) (o5 := some (.int j)) (o7 := some (.ref (s2 ++ [Cell.lst ys]).length)) (m := m) (L := s2.length) (ys := ys) (a3.dice hn) (by omega) (by omega) (by omega) hi
  have a4 := a3.roll hn r4
  have c8 := r4.cell (by omega) c7
  have e6' := (bin_at (a := varE 7) (f := addD) (x := .ref (s2 ++ [Cell.lst ys]).length) (fr := bfr n w side (some (.ref st.length)) (some (.int m)) (some (.int j)) (some (.tup ys)) (some (.ref (s2 ++ [Cell.lst ys]).length))) rfl e6).trans (add_tmp c8 (by omega))
  have a5 := a4.grow [.lst (D8 ++ D2)]
  have c9 : (s4 ++ [Cell.lst (D8 ++ D2)])[s4.length]? = some (.lst (D8 ++ D2)) := cell_new
  obtain ⟨D3, e7, l33, p3⟩ := some3_at (n := n) (w := w) (side := side) (o3 := some (.ref st.length)) (o4 := some (.int m)) (o5 := some (.int j)) (o7 := some (.ref s4.length)) (L := s2.length) (s := s4 ++ [Cell.lst (D8 ++ D2)]) (ys := ys) (by omega) hi
  have e7' := (bin_at (a := varE 7) (f := addD) (x := .ref s4.length) (fr := bfr n w side (some (.ref st.length)) (some (.int m)) (some (.int j)) (some (.tup ys)) (some (.ref s4.length))) rfl e7).trans (add_tmp c9 (by rw [List.length_append]; omega))
  have a6 := a5.grow [.lst (D8 ++ D2 ++ D3)]
  have l4 := r4.len
  rw [List.length_append, List.length_append, List.length_singleton, List.length_singleton] at l4
  have l5 : (s4 ++ [Cell.lst (D8 ++ D2)]).length = s4.length + 1 := by rw [List.length_append]; rfl
  have l6 : ((s4 ++ [Cell.lst (D8 ++ D2)]) ++ [Cell.lst (D8 ++ D2 ++ D3)]).length = s4.length + 2 := by rw [List.length_append, l5]; rfl
  have cK : ((s4 ++ [Cell.lst (D8 ++ D2)]) ++ [Cell.lst (D8 ++ D2 ++ D3)])[(s4 ++ [Cell.lst (D8 ++ D2)]).length]? = some (.lst (D8 ++ D2 ++ D3)) := cell_new
  have opt : ∀ x ∈ D8 ++ D2 ++ D3, Opt s2.length x := fun x hx => by
    rcases List.mem_append.mp hx with hx | hx
    · rcases List.mem_append.mp hx with hx | hx
      · exact p8 x hx
      · exact p2 x hx
    · exact p3 x hx
  obtain ⟨x, hx, a, b, c, e8⟩ := f_pick (k := (s4 ++ [Cell.lst (D8 ++ D2)]).length) (a6.dice hn) cK (by omega) (by rw [List.length_append, List.length_append]; omega) (by rw [List.length_append, List.length_append]; omega) (fun x hx => by
    rcases opt x hx with rfl | ⟨lo, _, _⟩
    · exact decide_eq_true (by rw [l6]; omega)
    · exact lo _)
  have kx : x.kept = true := by
    rcases opt x hx with rfl | ⟨_, _, k⟩
    · rfl
    · exact k
  have r7 : Rolled n ((s4 ++ [Cell.lst (D8 ++ D2)]) ++ [Cell.lst (D8 ++ D2 ++ D3)]) _ := ⟨a, b, c, rfl⟩
  have a7 := a6.roll hn r7
  have cR := r7.cell (k := st.length) (by omega) (cell_app (more := [Cell.lst (D8 ++ D2 ++ D3)]) (cell_app (more := [Cell.lst (D8 ++ D2)]) (r4.cell (k := st.length) (by omega) (cell_app (more := [Cell.lst D8]) (cell_app (more := [Cell.lst ys]) c2)))))
  have cL := r7.cell (k := s2.length) (by omega) (cell_app (more := [Cell.lst (D8 ++ D2 ++ D3)]) (cell_app (more := [Cell.lst (D8 ++ D2)]) (r4.cell (k := s2.length) (by omega) (cell_app (more := [Cell.lst D8]) (cell_new (st := s2) (c := .lst ys))))))
  have sd := set_cell (k := (j : Int)) (j := j) (v := x) cR (ixN_nat hj)
  refine ⟨_, st.length, j, x, s2.length, some (.int m), some (.int j), some (.tup ys), some (.ref (s4 ++ [Cell.lst (D8 ++ D2)]).length), ?_, a7.set (Nat.le_refl _) (.lst (A.set j x)), List.getElem?_set_self (cell_lt cR), hj, by omega, opt x hx, ys, ?_⟩
  · refine (seq_nx q2).trans ?_
    refine (seq_nx (asg_set e3 rfl)).trans ?_
    refine (seq_nx (asg_set e4 rfl)).trans ?_
    refine (seq_nx (asg_new e5)).trans ?_
    refine (seq_nx (asg_new e6')).trans ?_
    refine (seq_nx (asg_new e7')).trans ?_
    exact seq_nx (asg_sub ((call2 rfl rfl rfl rfl).trans e8) kx rfl rfl sd)
  · rw [List.getElem?_set_ne (by omega)]
    exact cL
theorem rows_vp {A : List D} {B m j L : Nat} {x : D} {s : Sto} {ys : List D} (rA : Rw B m A) (o : Opt L x) (hL : s[L]? = some (.lst ys)) : Vp 2 s (.tup (A.set j x)) := .tup fun r hr => by
  rcases List.mem_or_eq_of_mem_set hr with hr | rfl
  · exact rA.vp r hr
  · rcases o with rfl | ⟨_, v, _⟩
    · exact .ref hL rfl
    · exact v s
theorem rows_pure {A : List D} {B m j L : Nat} {x : D} {s : Sto} (rA : Rw B m A) (v : ∀ s, Vp 1 s x) : Vp 2 s (.tup (A.set j x)) := .tup fun r hr => by
  rcases List.mem_or_eq_of_mem_set hr with hr | rfl
  · exact rA.vp r hr
  · exact v s
theorem f_bent {w : D} {N M B : Nat} {ls rs : List D} (hd : Dice st n) (W : Wi B N M w ls rs) (N1 : 1 ≤ N) (N2 : N ≤ 30) (M1 : 1 ≤ M) (M2 : M ≤ 30) (hB : B ≤ 100) : ∃ d st', F__law_bent [.ref n, w] st = .ok d st' ∧ Aft n st st' ∧ Vp 3 st' d ∧ d.kept = true := by
  have hn := hd.lt
  obtain ⟨rfl, rfl, rfl, hl, hr⟩ := W
  have i0 : ∀ s, ixD (.tup [.tup ls, .tup rs]) (.int 0) s = .ok (.tup ls) s := fun _ => rfl
  have i1 : ∀ s, ixD (.tup [.tup ls, .tup rs]) (.int 1) s = .ok (.tup rs) s := fun _ => rfl
  obtain ⟨r, s1, e1, r1, lt⟩ := call_roll (fr := [some (.ref n), some (.tup [.tup ls, .tup rs]), none, none, none, none, none, none, none]) (e := conE (.int 2)) (t := 2) rfl rfl hd (by omega) (by omega)
  have a1 := Aft.of r1
  -- the end of the body answers d; what stands in it
  suffices h : ∃ d s', B__law_bent ([.ref n, .tup [.tup ls, .tup rs]].map some ++ List.replicate 7 none) st = .ok (.rt d) s' ∧ Aft n st s' ∧ Vp 3 s' d ∧ d.kept = true ∧ (d.lower st.length = true → ∀ s, Vp 3 s d) ∧ (∀ k, d ≠ .ref k) by
    obtain ⟨d, s', eb, a, v, kd, pure, nref⟩ := h
    have f := fnD_ok (n := 2) (m := 7) (ds := [.ref n, .tup [.tup ls, .tup rs]]) rfl eb
    by_cases low : d.lower st.length = true
    · obtain ⟨s4, e, r⟩ := a.sweep low
      exact ⟨d, s4, f.trans e, .of r, pure low s4, kd⟩
    · refine ⟨d, s', f.trans ?_, a, v, kd⟩
      show Ev.sweep st d s' = _
      unfold Ev.sweep
      rw [if_pos a.kept, if_neg low]
      cases d with
      | ref k => exact absurd rfl (nref k)
      | _ => rfl
  have notLow : ∀ {A R : List D} {j L : Nat} {x : D}, j < A.length → st.length ≤ L → x = .ref L → lowerAll st.length (A.set j x) = true → False := fun {A R j L x} hj hL e h => by
    have := lowerAll_iff.mp h x (by
      rw [List.mem_iff_getElem?]
      exact ⟨j, List.getElem?_set_self hj⟩)
    rw [e] at this
    have := of_decide_eq_true (show decide (L < st.length) = true from this)
    omega
  have z : r = 0 ∨ r = 1 := by omega
  rcases z with rfl | rfl
  · obtain ⟨s2, k3, j, x, L, o4, o5, o6, o7, e2, a2, c3, hj, hL, o, ys, cL⟩ := bent_core (side := (0 : Nat)) (A := ls) (R := rs) (t := retS (ifE (testE (bin2 (cmpD .Eq) (varE 2) (conE (.int 0)))) (tupE [(un1 tupleD (varE 3)), (bin2 ixD (varE 1) (conE (.int 1)))]) (tupE [(bin2 ixD (varE 1) (conE (.int 0))), (un1 tupleD (varE 3))]))) (r1.dice hd) i0 i1 hl N1 N2 rfl M1 M2 hB
    have hL' : st.length ≤ L := by rw [← r1.len]; exact hL
    have t : testE (bin2 (cmpD .Eq) (varE 2) (conE (.int 0))) (bfr n (.tup [.tup ls, .tup rs]) (0 : Nat) (some (.ref k3)) o4 o5 o6 o7) s2 = .ok true s2 := (eq_test (i := ((0 : Nat) : Int)) rfl).trans rfl
    refine ⟨.tup [.tup (ls.set j x), .tup rs], s2, (seq_nx (asg_set e1 rfl)).trans (e2.trans (ret_at ((ife_yes t).trans (tup_two ((un_at rfl).trans (tuple_cell c3)) rfl ((bin_at rfl rfl).trans (i1 s2)) rfl)))), a1.trans hn a2, ?_, rfl, fun low s => ?_, nofun⟩
    · refine .tup fun d hd => ?_
      simp only [List.mem_cons, List.not_mem_nil, or_false] at hd
      rcases hd with rfl | rfl
      · exact rows_vp hl o cL
      · exact .tup fun y m => hr.vp y m
    · have low' : (lowerAll st.length (ls.set j x) && (lowerAll st.length rs && true)) = true := low
      have px : ∀ s, Vp 1 s x := by
        rcases o with e | ⟨_, v, _⟩
        · exact (notLow (R := rs) hj hL' e (Bool.and_eq_true_iff.mp low').1).elim
        · exact v
      refine .tup fun d hd => ?_
      simp only [List.mem_cons, List.not_mem_nil, or_false] at hd
      rcases hd with rfl | rfl
      · exact rows_pure (L := L) hl px
      · exact .tup fun y m => hr.vp y m
  · obtain ⟨s2, k3, j, x, L, o4, o5, o6, o7, e2, a2, c3, hj, hL, o, ys, cL⟩ := bent_core (side := (1 : Nat)) (A := rs) (R := ls) (t := retS (ifE (testE (bin2 (cmpD .Eq) (varE 2) (conE (.int 0)))) (tupE [(un1 tupleD (varE 3)), (bin2 ixD (varE 1) (conE (.int 1)))]) (tupE [(bin2 ixD (varE 1) (conE (.int 0))), (un1 tupleD (varE 3))]))) (r1.dice hd) i1 i0 hr M1 M2 rfl N1 N2 hB
    have hL' : st.length ≤ L := by rw [← r1.len]; exact hL
    have t : testE (bin2 (cmpD .Eq) (varE 2) (conE (.int 0))) (bfr n (.tup [.tup ls, .tup rs]) (1 : Nat) (some (.ref k3)) o4 o5 o6 o7) s2 = .ok false s2 := (eq_test (i := ((1 : Nat) : Int)) rfl).trans rfl
    refine ⟨.tup [.tup ls, .tup (rs.set j x)], s2, (seq_nx (asg_set e1 rfl)).trans (e2.trans (ret_at ((ife_no t).trans (tup_two ((bin_at rfl rfl).trans (i0 s2)) rfl ((un_at rfl).trans (tuple_cell c3)) rfl)))), a1.trans hn a2, ?_, rfl, fun low s => ?_, nofun⟩
    · refine .tup fun d hd => ?_
      simp only [List.mem_cons, List.not_mem_nil, or_false] at hd
      rcases hd with rfl | rfl
      · exact .tup fun y m => hl.vp y m
      · exact rows_vp hr o cL
    · have low' : (lowerAll st.length ls && (lowerAll st.length (rs.set j x) && true)) = true := low
      have px : ∀ s, Vp 1 s x := by
        rcases o with e | ⟨_, v, _⟩
        · exact (notLow (R := ls) hj hL' e (Bool.and_eq_true_iff.mp (Bool.and_eq_true_iff.mp low').2).1).elim
        · exact v
      refine .tup fun d hd => ?_
      simp only [List.mem_cons, List.not_mem_nil, or_false] at hd
      rcases hd with rfl | rfl
      · exact .tup fun y m => hl.vp y m
      · exact rows_pure (L := L) hr px
end
end Law
set_option Elab.async false
set_option linter.all false
set_option maxRecDepth 100000
set_option maxHeartbeats 4000000
namespace Law
open PySem Ev
theorem fault_kept (v : D) : (faultD v).kept = true := by
  unfold faultD
  split
  · rename_i q
    obtain ⟨ls, rs, rfl, h1, h2⟩ := form_sides q
    show (match scanRows "left" rs 0 ls with
      | some d => d
      | none => match scanRows "right" ls 0 rs with
        | some d => d
        | none => D.non : D).kept = true
    split
    · rename_i e
      obtain ⟨p, o, rfl, _⟩ := scanRows_at (p := 0) h1 e
      rfl
    · split
      · rename_i e
        obtain ⟨p, o, rfl, _⟩ := scanRows_at (p := 0) h2 e
        rfl
      · rfl
  · rfl
theorem is_non {x : D} {s : Sto} : cmpD .Is x .non s = .ok (.bl (isNonB x)) s := by simp [cmpD, isD, isND]
section
variable {n : Nat} {st : Sto}
abbrev gfr (n : Nat) (w ls rs : D) (o4 o5 o6 o7 : Option D) : Fr := [some (.ref n), some w, some ls, some rs, o4, o5, o6, o7]
noncomputable abbrev judgeS : S := (seqS (asgS (setT 7) (callE 1 F__law_fault [(varE 6)]))
    (ifS (orT (testE (bin2 (cmpD .NotEq) (un1 reprD (callE 1 F_fault_of [(varE 6)])) (un1 reprD (varE 7)))) (testE (bin2 (cmpD .NotEq) (un1 reprD (callE 1 F_is_wishes [(varE 6)])) (un1 reprD (bin2 (cmpD .Is) (varE 7) (conE .non)))))) (retS (conE (.bl false))) nopS))
theorem judge_at {w l r v : D} {o4 o5 o7 : Option D} {s : Sto} (h : Vd 3 s v) : judgeS (gfr n w l r o4 o5 (some v) o7) s = .ok (.nx (gfr n w l r o4 o5 (some v) (some (faultD v)))) s := by
  have hk := h.here.2.1
  obtain ⟨t, et⟩ := repr_fault v s
  obtain ⟨u, eu⟩ := repr_bl (isNonB (faultD v)) s
  have e1 : callE 1 F__law_fault [(varE 6)] (gfr n w l r o4 o5 (some v) o7) s = .ok (faultD v) s := (call1 rfl hk).trans (f_law_fault h)
  have e2 : callE 1 F_fault_of [(varE 6)] (gfr n w l r o4 o5 (some v) (some (faultD v))) s = .ok (faultD v) s := (call1 rfl hk).trans (f_fault_of h)
  have e3 : callE 1 F_is_wishes [(varE 6)] (gfr n w l r o4 o5 (some v) (some (faultD v))) s = .ok (.bl (isNonB (faultD v))) s := (call1 rfl hk).trans (f_is_wishes h)
  have e4 : (bin2 (cmpD .Is) (varE 7) (conE .non)) (gfr n w l r o4 o5 (some v) (some (faultD v))) s = .ok (.bl (isNonB (faultD v))) s := (bin_at rfl rfl).trans is_non
  refine (seq_nx (asg_set e1 (fault_kept v))).trans ?_
  refine (if_no ((or_no (test_at ((bin_at ((un_at e2).trans et) ((un_at rfl).trans et)).trans ne_text))).trans (test_at ((bin_at ((un_at e3).trans eu) ((un_at e4).trans eu)).trans ne_text)))).trans rfl
theorem judge_loop {w l r : D} {o4 o5 : Option D} {s : Sto} : ∀ (vs : List D) (o6 o7 : Option D), (∀ v ∈ vs, Vd 3 s v) → ∃ o6' o7', loop (setT 6) judgeS vs (gfr n w l r o4 o5 o6 o7) s = .ok (.nx (gfr n w l r o4 o5 o6' o7')) s := by
  intro vs
  induction vs with
  | nil => exact fun o6 o7 _ => ⟨o6, o7, rfl⟩
  | cons v vs ih =>
    intro o6 o7 h
    have hv := h v List.mem_cons_self
    obtain ⟨o6', o7', e⟩ := ih (some v) (some (faultD v)) fun x m => h x (List.mem_cons_of_mem _ m)
    refine ⟨o6', o7', ?_⟩
    have t : setT 6 v (gfr n w l r o4 o5 o6 o7) s = .ok (gfr n w l r o4 o5 (some v) o7) s := setT_at hv.here.2.1
    unfold loop
    rw [bnd_app, t, bnd_ok, bnd_app, judge_at hv, bnd_ok]
    exact e
/-- the list of values near wishes, in a cell -/
structure Near (n : Nat) (st : Sto) (k : Nat) (L : List D) (s : Sto) : Prop where
  aft : Aft n st s
  cell : s[k]? = some (.lst L)
  vp : ∀ d ∈ L, Vp 3 s d
noncomputable abbrev bentS : S := (exprS (meth1s ["list"] appendD (varE 4) (callE 2 F__law_bent [(varE 0), (varE 1)])))
theorem bent_loop {w : D} {N M k : Nat} {ls rs : List D} {l r : D} {o6 o7 : Option D} (hn : n < st.length) (hk : st.length ≤ k) (W : Wi 60 N M w ls rs) (N1 : 1 ≤ N) (N2 : N ≤ 30) (M1 : 1 ≤ M) (M2 : M ≤ 30) : ∀ (is L : List D) (s : Sto) (o5 : Option D), (∀ x ∈ is, x.kept = true) → L.length + is.length ≤ 900 → Near n st k L s →
    ∃ L' s' o5', loop (setT 5) bentS is (gfr n w l r (some (.ref k)) o5 o6 o7) s = .ok (.nx (gfr n w l r (some (.ref k)) o5' o6 o7)) s' ∧ Near n st k L' s' := by
  intro is
  induction is with
  | nil => exact fun L s o5 _ _ h => ⟨L, s, o5, rfl, h⟩
  | cons x is ih =>
    intro L s o5 hi hz h
    simp only [List.length_cons] at hz
    have hd := h.aft.dice hn
    obtain ⟨d, s1, e1, a1, v1, kd⟩ := f_bent hd W N1 N2 M1 M2 (by omega)
    have c1 := a1.cell (k := k) (by omega) h.cell
    have e2 : bentS (gfr n w l r (some (.ref k)) (some x) o6 o7) s = .ok (.nx (gfr n w l r (some (.ref k)) (some x) o6 o7)) (s1.set k (.lst (L ++ [d]))) :=
      app_call rfl ((call2 rfl rfl rfl W.kept).trans e1) h.cell c1 kd (by omega)
    have same : SameT s1 (s1.set k (.lst (L ++ [d]))) := SameT.set c1 rfl
    have h1 : Near n st k (L ++ [d]) (s1.set k (.lst (L ++ [d]))) := ⟨(h.aft.trans hn a1).set hk _, List.getElem?_set_self (cell_lt c1), fun y hy => by
      rcases List.mem_append.mp hy with hy | hy
      · exact (h.vp y hy).same ((SameT.aft a1 hd).trans same)
      · rw [List.mem_singleton.mp hy]
        exact v1.same same⟩
    obtain ⟨L', s', o5', e3, h3⟩ := ih (L ++ [d]) _ (some x) (fun y m => hi y (List.mem_cons_of_mem _ m)) (by rw [List.length_append, List.length_singleton]; omega) h1
    refine ⟨L', s', o5', ?_, h3⟩
    have t : setT 5 x (gfr n w l r (some (.ref k)) o5 o6 o7) s = .ok (gfr n w l r (some (.ref k)) (some x) o6 o7) s := setT_at (hi x List.mem_cons_self)
    unfold loop
    rw [bnd_app, t, bnd_ok, bnd_app, e2, bnd_ok]
    exact e3
noncomputable abbrev near7 : Ex := (lstE [(varE 1), (un1 listD (varE 1)), (varE 2), (tupE [(varE 2)]), (tupE [(varE 2), (varE 3), (tupE [])]), (tupE [(varE 3), (varE 2)]), (tupE [(sliceE (varE 2) (some (conE (.int 1))) none), (varE 3)])])
noncomputable abbrev near5 : Ex := (lstE [(tupE [(varE 2), (bin2 addD (varE 3) (tupE [(tupE [])]))]), (tupE [(varE 2), (un1 listD (varE 3))]), (tupE [(bin2 addD (varE 2) (tupE [(tupE [])])), (varE 3)]), (tupE [(tupE []), (tupE [])]), (tupE [(varE 2), (conE .non)])])
noncomputable abbrev nearO : Ex := (lstE [(conE .non), (conE (.int 0)), (conE (.str "wishes")), newD, (tupE [(tupE []), (varE 3)])])
section
variable {ls rs : List D} {B N M : Nat} {s : Sto} {o4 o5 o6 o7 : Option D}
theorem empty_vp {k : Nat} : Vp k s (.tup []) := .row fun y m => (List.not_mem_nil m).elim
theorem side_vp {m k : Nat} {A : List D} (h : Rw B m A) : Vp (k + 1) s (.tup A) := .tup fun r hr => h.vp r hr
theorem pair_vp {x y : D} (hx : Vp 2 s x) (hy : Vp 2 s y) : Vp 3 s (.tup [x, y]) := .tup fun d hd => by
  simp only [List.mem_cons, List.not_mem_nil, or_false] at hd
  rcases hd with rfl | rfl
  · exact hx
  · exact hy
theorem near7_at (hl : Rw B M ls) (hr : Rw B N rs) : ∃ ds, near7 (gfr n (.tup [.tup ls, .tup rs]) (.tup ls) (.tup rs) o4 o5 o6 o7) s = .ok (.tmp (.lst ds)) (s ++ [.lst [.tup ls, .tup rs]]) ∧ ds.length = 7 ∧ ∀ d ∈ ds, Vp 3 (s ++ [.lst [.tup ls, .tup rs]]) d := by
  have e7 : ∀ s, sliceE (varE 2) (some (conE (.int 1))) none (gfr n (.tup [.tup ls, .tup rs]) (.tup ls) (.tup rs) o4 o5 o6 o7) s = .ok (.tup (cut ls (some 1) none)) s := fun _ => rfl
  have v1 : ∀ s, varE 1 (gfr n (.tup [.tup ls, .tup rs]) (.tup ls) (.tup rs) o4 o5 o6 o7) s = .ok (.tup [.tup ls, .tup rs]) s := fun _ => rfl
  have v2 : ∀ s, varE 2 (gfr n (.tup [.tup ls, .tup rs]) (.tup ls) (.tup rs) o4 o5 o6 o7) s = .ok (.tup ls) s := fun _ => rfl
  have v3 : ∀ s, varE 3 (gfr n (.tup [.tup ls, .tup rs]) (.tup ls) (.tup rs) o4 o5 o6 o7) s = .ok (.tup rs) s := fun _ => rfl
  have v0 : ∀ s, tupE [] (gfr n (.tup [.tup ls, .tup rs]) (.tup ls) (.tup rs) o4 o5 o6 o7) s = .ok (.tup []) s := fun _ => rfl
  have el : un1 listD (varE 1) (gfr n (.tup [.tup ls, .tup rs]) (.tup ls) (.tup rs) o4 o5 o6 o7) s = .ok (.tmp (.lst [.tup ls, .tup rs])) s := (un_at (v1 s)).trans rfl
  refine ⟨[.tup [.tup ls, .tup rs], .ref s.length, .tup ls, .tup [.tup ls], .tup [.tup ls, .tup rs, .tup []], .tup [.tup rs, .tup ls], .tup [.tup (cut ls (some 1) none), .tup rs]],
    lst_at (allS_k (v1 _) rfl (allS_t el (allS_k (v2 _) rfl (allS_k (tup_at (allS_k (v2 _) rfl allS_nil)) rfl (allS_k (tup_three (v2 _) rfl (v3 _) rfl (v0 _) rfl) rfl (allS_k (tup_two (v3 _) rfl (v2 _) rfl) rfl (allS_k (tup_two (e7 _) rfl (v3 _) rfl) rfl allS_nil))))))), rfl, fun d hd => ?_⟩
  simp only [List.mem_cons, List.not_mem_nil, or_false] at hd
  rcases hd with rfl | rfl | rfl | rfl | rfl | rfl | rfl
  · exact pair_vp (side_vp hl) (side_vp hr)
  · exact .ref cell_new rfl
  · exact side_vp hl
  · refine .tup fun d hd => ?_
    rw [List.mem_singleton.mp hd]
    exact side_vp hl
  · refine .tup fun d hd => ?_
    simp only [List.mem_cons, List.not_mem_nil, or_false] at hd
    rcases hd with rfl | rfl | rfl
    · exact side_vp hl
    · exact side_vp hr
    · exact empty_vp
  · exact pair_vp (side_vp hr) (side_vp hl)
  · exact pair_vp (.tup fun r hr => hl.vp r (cut_mem hr)) (side_vp hr)
theorem near5_at {w : D} (hl : Rw B M ls) (hr : Rw B N rs) (zl : ls.length ≤ 100) (zr : rs.length ≤ 100) : ∃ ds, near5 (gfr n w (.tup ls) (.tup rs) o4 o5 o6 o7) s = .ok (.tmp (.lst ds)) (s ++ [.lst rs]) ∧ ds.length = 5 ∧ ∀ d ∈ ds, Vp 3 (s ++ [.lst rs]) d := by
  have v2 : ∀ s, varE 2 (gfr n w (.tup ls) (.tup rs) o4 o5 o6 o7) s = .ok (.tup ls) s := fun _ => rfl
  have v3 : ∀ s, varE 3 (gfr n w (.tup ls) (.tup rs) o4 o5 o6 o7) s = .ok (.tup rs) s := fun _ => rfl
  have v0 : ∀ s, tupE [] (gfr n w (.tup ls) (.tup rs) o4 o5 o6 o7) s = .ok (.tup []) s := fun _ => rfl
  have v00 : ∀ s, tupE [tupE []] (gfr n w (.tup ls) (.tup rs) o4 o5 o6 o7) s = .ok (.tup [.tup []]) s := fun _ => rfl
  have ar : ∀ s, addD (.tup rs) (.tup [.tup []]) s = .ok (.tup (rs ++ [.tup []])) s := fun s => add_tup (by simp; omega)
  have al : ∀ s, addD (.tup ls) (.tup [.tup []]) s = .ok (.tup (ls ++ [.tup []])) s := fun s => add_tup (by simp; omega)
  have el : ∀ s, un1 listD (varE 3) (gfr n w (.tup ls) (.tup rs) o4 o5 o6 o7) s = .ok (.tmp (.lst rs)) s := fun s => (un_at (v3 s)).trans rfl
  refine ⟨[.tup [.tup ls, .tup (rs ++ [.tup []])], .tup [.tup ls, .ref s.length], .tup [.tup (ls ++ [.tup []]), .tup rs], .tup [.tup [], .tup []], .tup [.tup ls, .non]],
    lst_at (allS_k (tup_two (v2 _) rfl ((bin_at (v3 _) (v00 _)).trans (ar _)) rfl) rfl (allS_k (tup_at (allS_k (v2 _) rfl (allS_t (el _) allS_nil))) rfl (allS_k (tup_two ((bin_at (v2 _) (v00 _)).trans (al _)) rfl (v3 _) rfl) rfl (allS_k (tup_two (v0 _) rfl (v0 _) rfl) rfl (allS_k (tup_two (v2 _) rfl rfl rfl) rfl allS_nil))))), rfl, fun d hd => ?_⟩
  simp only [List.mem_cons, List.not_mem_nil, or_false] at hd
  have more : ∀ {m : Nat} {A : List D}, Rw B m A → Vp 2 (s ++ [.lst rs]) (.tup (A ++ [.tup []])) := fun h => .tup fun r hr => by
    rcases List.mem_append.mp hr with hr | hr
    · exact h.vp r hr
    · rw [List.mem_singleton.mp hr]
      exact empty_vp
  rcases hd with rfl | rfl | rfl | rfl | rfl
  · exact pair_vp (side_vp hl) (more hr)
  · exact pair_vp (side_vp hl) (.ref cell_new rfl)
  · exact pair_vp (more hl) (side_vp hr)
  · exact pair_vp empty_vp empty_vp
  · exact pair_vp (side_vp hl) .non
theorem nearO_at {w l : D} (hr : Rw B N rs) : ∃ ds, nearO (gfr n w l (.tup rs) o4 o5 o6 o7) s = .ok (.tmp (.lst ds)) (s ++ [.dct []]) ∧ ds.length = 5 ∧ ∀ d ∈ ds, Vp 3 (s ++ [.dct []]) d := by
  have v3 : ∀ s, varE 3 (gfr n w l (.tup rs) o4 o5 o6 o7) s = .ok (.tup rs) s := fun _ => rfl
  have v0 : ∀ s, tupE [] (gfr n w l (.tup rs) o4 o5 o6 o7) s = .ok (.tup []) s := fun _ => rfl
  refine ⟨[.non, .int 0, .str "wishes", .ref s.length, .tup [.tup [], .tup rs]],
    lst_at (allS_k rfl rfl (allS_k rfl rfl (allS_k rfl rfl (allS_t rfl (allS_k (tup_two (v0 _) rfl (v3 _) rfl) rfl allS_nil))))), rfl, fun d hd => ?_⟩
  simp only [List.mem_cons, List.not_mem_nil, or_false] at hd
  rcases hd with rfl | rfl | rfl | rfl | rfl
  · exact .non
  · exact .int
  · exact .str (by decide +kernel)
  · exact .ref cell_new rfl
  · exact pair_vp empty_vp (side_vp hr)
end
theorem f_right (hd : Dice st n) : ∃ st', F__law_right [.ref n] st = .ok (.bl true) st' ∧ Rolled n st st' := by
  have hn := hd.lt
  obtain ⟨x, hx, s1, e1, a1⟩ := call_pick (n := n) (st := st) (fr := [some (.ref n), none, none, none, none, none, none, none]) (e := lstE [(conE (.int 1)), (conE (.int 2)), (conE (.int 4)), (conE (.int 7))]) (xs := [.int 1, .int 2, .int 4, .int 7]) rfl rfl hd (by simp) (by simp) (by simp)
  have hx' : ∃ p : Nat, x = .int p ∧ 1 ≤ p ∧ p ≤ 7 := by
    simp only [List.mem_cons, List.not_mem_nil, or_false] at hx
    rcases hx with rfl | rfl | rfl | rfl
    · exact ⟨1, rfl, by omega, by omega⟩
    · exact ⟨2, rfl, by omega, by omega⟩
    · exact ⟨4, rfl, by omega, by omega⟩
    · exact ⟨7, rfl, by omega, by omega⟩
  obtain ⟨p, rfl, p1, p7⟩ := hx'
  obtain ⟨w, N, M, ls, rs, s2, e2, r2, W, N1, M1, N2, M2⟩ := f_drawn (a1.dice hn) p1 p7
  have a2 := a1.roll hn r2
  have q1 := asg_set (i := 1) ((call2 (F := F__law_drawn_wishes) (a := varE 0) (x := .ref n) rfl rfl e1 rfl).trans e2) W.kept
  have W' := W
  obtain ⟨rfl, rfl, rfl, hl, hr⟩ := W
  have q2 : asgS (tupT [(setT 2), (setT 3)]) (varE 1) [some (.ref n), some (.tup [.tup ls, .tup rs]), none, none, none, none, none, none] s2 = .ok (.nx (gfr n (.tup [.tup ls, .tup rs]) (.tup ls) (.tup rs) none none none none)) s2 := asg_two rfl rfl rfl
  obtain ⟨d7, e7, l7, v7⟩ := near7_at (n := n) (s := s2) (o4 := none) (o5 := none) (o6 := none) (o7 := none) hl hr
  have a3 := (a2.grow [.lst [.tup ls, .tup rs]]).grow [.lst d7]
  have c7 : ((s2 ++ [Cell.lst [.tup ls, .tup rs]]) ++ [Cell.lst d7])[(s2 ++ [Cell.lst [.tup ls, .tup rs]]).length]? = some (.lst d7) := cell_new
  obtain ⟨d5, e5, l5, v5⟩ := near5_at (n := n) (w := .tup [.tup ls, .tup rs]) (s := (s2 ++ [Cell.lst [.tup ls, .tup rs]]) ++ [Cell.lst d7]) (o4 := some (.ref (s2 ++ [Cell.lst [.tup ls, .tup rs]]).length)) (o5 := none) (o6 := none) (o7 := none) hl hr (by omega) (by omega)
  have e5' := (bin_at (a := varE 4) (f := addD) (x := .ref (s2 ++ [Cell.lst [.tup ls, .tup rs]]).length) rfl e5).trans (add_tmp (cell_app c7) (by omega))
  generalize hs4 : ((s2 ++ [Cell.lst [.tup ls, .tup rs]]) ++ [Cell.lst d7]) ++ [Cell.lst rs] = s4 at e5' v5
  have a4 : Aft n st s4 := by rw [← hs4]; exact a3.grow _
  have same4 : SameT (s2 ++ [Cell.lst [.tup ls, .tup rs]]) s4 := by rw [← hs4]; exact SameT.app.trans .app
  have c8 : (s4 ++ [Cell.lst (d7 ++ d5)])[s4.length]? = some (.lst (d7 ++ d5)) := cell_new
  obtain ⟨dO, e6, l6, v6⟩ := nearO_at (n := n) (w := .tup [.tup ls, .tup rs]) (l := .tup ls) (s := s4 ++ [Cell.lst (d7 ++ d5)]) (o4 := some (.ref s4.length)) (o5 := none) (o6 := none) (o7 := none) hr
  have e6' := (bin_at (a := varE 4) (f := addD) (x := .ref s4.length) rfl e6).trans (add_tmp (cell_app c8) (by rw [List.length_append]; omega))
  generalize hs6 : (s4 ++ [Cell.lst (d7 ++ d5)]) ++ [Cell.dct []] = s6 at e6' v6
  have a6 : Aft n st s6 := by rw [← hs6]; exact (a4.grow _).grow _
  have same6 : SameT s4 s6 := by rw [← hs6]; exact SameT.app.trans .app
  have N0 : Near n st s6.length (d7 ++ d5 ++ dO) (s6 ++ [.lst (d7 ++ d5 ++ dO)]) := ⟨a6.grow _, cell_new, fun d hd => by
    rcases List.mem_append.mp hd with hd | hd
    · rcases List.mem_append.mp hd with hd | hd
      · exact ((v7 d hd).same same4).same (same6.trans .app)
      · exact (v5 d hd).same (same6.trans .app)
    · exact (v6 d hd).same .app⟩
  have z6 := a6.len
  obtain ⟨L, s7, o5, e8, N7⟩ := bent_loop (k := s6.length) (l := .tup ls) (r := .tup rs) (o6 := none) (o7 := none) hn z6 W' N1 (by omega) M1 (by omega) ((List.range 10).map fun i : Nat => D.int i) (d7 ++ d5 ++ dO) (s6 ++ [.lst (d7 ++ d5 ++ dO)]) none (fun x hx => by
    obtain ⟨i, _, rfl⟩ := List.mem_map.mp hx
    rfl) (by simp only [List.length_append, List.length_map, List.length_range]; omega) N0
  have it : range1I (conE (.int 10)) (gfr n (.tup [.tup ls, .tup rs]) (.tup ls) (.tup rs) (some (.ref s6.length)) none none none) (s6 ++ [.lst (d7 ++ d5 ++ dO)]) = .ok ⟨(List.range 10).map fun i : Nat => D.int i, []⟩ (s6 ++ [.lst (d7 ++ d5 ++ dO)]) := range1_at (m := 10) rfl (by omega)
  have q6 := forS_ok (q := setT 5) (body := bentS) it e8
  rw [unlocks_nil] at q6
  have sameL : SameT s7 (s7.set s6.length (.lck (.lst L))) := SameT.set N7.cell rfl
  obtain ⟨o6, o7, e9⟩ := judge_loop (n := n) (w := .tup [.tup ls, .tup rs]) (l := .tup ls) (r := .tup rs) (o4 := some (.ref s6.length)) (o5 := o5) (s := s7.set s6.length (.lck (.lst L))) L none none fun v hv => ((N7.vp v hv).same sameL).vd
  have q7 := forS_ok (it := seqI (varE 4)) (q := setT 6) (body := judgeS) (fr := gfr n (.tup [.tup ls, .tup rs]) (.tup ls) (.tup rs) (some (.ref s6.length)) o5 none none) (st := s7) ((seqI_at rfl).trans (src_cell N7.cell)) e9
  rw [unlock_cell N7.cell] at q7
  exact fn_aft (N := 1) (m := 7) (body := B__law_right) (ds := [.ref n]) (d := .bl true) (st := st) rfl (by
    refine (seq_nx q1).trans ?_
    refine (seq_nx q2).trans ?_
    refine (seq_nx (asg_new e7)).trans ?_
    refine (seq_nx (asg_new e5')).trans ?_
    refine (seq_nx (asg_new e6')).trans ?_
    refine (seq_nx q6).trans ?_
    refine (seq_nx q7).trans ?_
    exact ret_at rfl) N7.aft rfl
end
end Law
set_option Elab.async false
set_option linter.all false
set_option maxRecDepth 100000
set_option maxHeartbeats 4000000
namespace Law
open PySem Ev
/-! ### the loops of law -/
abbrev lfr (ns : List Int) (o1 o2 o3 o4 o5 o6 o7 : Option D) : Fr := [some (scriptD ns), o1, o2, o3, o4, o5, o6, o7]
noncomputable abbrev turnS : S := (ifS (notT (testE (callE 1 F__law_right [(varE 6)]))) (retS (conE (.bl false))) nopS)
theorem not_at {t : Te} {fr : Fr} {s s' : Sto} {b : Bool} (h : t fr s = .ok b s') : notT t fr s = .ok (!b) s' := by rw [notT_app, h]; rfl
theorem turn_loop {ns : List Int} {o1 : Option D} {n : Nat} : ∀ (is : List D) (s : Sto) (o7 : Option D), (∀ x ∈ is, x.kept = true) → Dice s n → ∃ s' o7', loop (setT 7) turnS is (lfr ns o1 none none none none (some (.ref n)) o7) s = .ok (.nx (lfr ns o1 none none none none (some (.ref n)) o7')) s' := by
  intro is
  induction is with
  | nil => exact fun s o7 _ _ => ⟨s, o7, rfl⟩
  | cons x is ih =>
    intro s o7 hi hd
    obtain ⟨s1, e1, r1⟩ := f_right hd
    obtain ⟨s', o7', e2⟩ := ih s1 (some x) (fun y m => hi y (List.mem_cons_of_mem _ m)) (r1.dice hd)
    refine ⟨s', o7', ?_⟩
    have t : setT 7 x (lfr ns o1 none none none none (some (.ref n)) o7) s = .ok (lfr ns o1 none none none none (some (.ref n)) (some x)) s := setT_at (hi x List.mem_cons_self)
    have b : turnS (lfr ns o1 none none none none (some (.ref n)) (some x)) s = .ok (.nx (lfr ns o1 none none none none (some (.ref n)) (some x))) s1 := (if_no (not_at (test_at ((call1 rfl rfl).trans e1)))).trans rfl
    unfold loop
    rw [bnd_app, t, bnd_ok, bnd_app, b, bnd_ok]
    exact e2
noncomputable abbrev spotS : S := (seqS (asgS (setT 6) (callE 2 F__law_dice [(varE 0), (varE 1)]))
    (forS (range1I (conE (.int 4))) (setT 7) turnS))
theorem spot_loop {ns : List Int} (hn : ns.length ≤ 63) : ∀ (is : List D) (s : Sto) (o1 o6 o7 : Option D), (∀ x ∈ is, ∃ k : Nat, x = .int k ∧ k ≤ 10) → ∃ s' o1' o6' o7', loop (setT 1) spotS is (lfr ns o1 none none none none o6 o7) s = .ok (.nx (lfr ns o1' none none none none o6' o7')) s' := by
  intro is
  induction is with
  | nil => exact fun s o1 o6 o7 _ => ⟨s, o1, o6, o7, rfl⟩
  | cons x is ih =>
    intro s o1 o6 o7 hi
    obtain ⟨k, rfl, hk⟩ := hi x List.mem_cons_self
    obtain ⟨a, b, c, e1⟩ := f_dice (k := k) (st := s) hn hk
    have q1 := asg_new (i := 6) (fr := lfr ns (some (.int k)) none none none none o6 o7) ((call2 (F := F__law_dice) (a := varE 0) (b := varE 1) (x := scriptD ns) (y := .int k) (s2 := s) rfl rfl rfl rfl).trans e1)
    have hd : Dice (s ++ [.lst [.int a, .int b, .int c]]) s.length := ⟨a, b, c, cell_new⟩
    obtain ⟨s2, o7', e2⟩ := turn_loop (ns := ns) (o1 := some (.int k)) ((List.range 4).map fun i : Nat => D.int i) _ o7 (fun x hx => by
      obtain ⟨i, _, rfl⟩ := List.mem_map.mp hx
      rfl) hd
    have it : range1I (conE (.int 4)) (lfr ns (some (.int k)) none none none none (some (.ref s.length)) o7) (s ++ [.lst [.int a, .int b, .int c]]) = .ok ⟨(List.range 4).map fun i : Nat => D.int i, []⟩ (s ++ [.lst [.int a, .int b, .int c]]) := range1_at (m := 4) rfl (by omega)
    have q2 := forS_ok (q := setT 7) (body := turnS) it e2
    rw [unlocks_nil] at q2
    obtain ⟨s3, o1', o6', o7'', e3⟩ := ih s2 (some (.int k)) (some (.ref s.length)) o7' fun y m => hi y (List.mem_cons_of_mem _ m)
    refine ⟨s3, o1', o6', o7'', ?_⟩
    have t : setT 1 (.int k) (lfr ns o1 none none none none o6 o7) s = .ok (lfr ns (some (.int k)) none none none none o6 o7) s := setT_at rfl
    have b : spotS (lfr ns (some (.int k)) none none none none o6 o7) s = .ok (.nx (lfr ns (some (.int k)) none none none none (some (.ref s.length)) o7')) s2 := (seq_nx q1).trans q2
    unfold loop
    rw [bnd_app, t, bnd_ok, bnd_app, b, bnd_ok]
    exact e3
/-! ### the told cases -/
def rowsI (xs : List (List Int)) : D := .tup (xs.map fun ys => .tup (ys.map .int))
theorem rowsI_vp {xs : List (List Int)} {s : Sto} : Vp 2 s (rowsI xs) := .tup fun r hr => by
  obtain ⟨ys, _, rfl⟩ := List.mem_map.mp hr
  exact .row fun y m => by
    obtain ⟨i, _, rfl⟩ := List.mem_map.mp m
    exact ⟨i, rfl⟩
theorem told_vd {xs ys : List (List Int)} {s : Sto} : Vd 3 s (.tup [rowsI xs, rowsI ys]) := (pair_vp rowsI_vp rowsI_vp).vd
theorem is_at {xs ys : List (List Int)} {e : Ex} {fr : Fr} {s : Sto} {b : Bool} (h : e fr s = .ok (.tup [rowsI xs, rowsI ys]) s) (k : isNonB (faultD (.tup [rowsI xs, rowsI ys])) = b) : callE 1 F_is_wishes [e] fr s = .ok (.bl b) s :=
  ((call1 h rfl).trans (f_is_wishes told_vd)).trans (by rw [k])
theorem fault_at {xs ys : List (List Int)} {e : Ex} {fr : Fr} {s : Sto} {d : D} (h : e fr s = .ok (.tup [rowsI xs, rowsI ys]) s) (k : faultD (.tup [rowsI xs, rowsI ys]) = d) : callE 1 F_fault_of [e] fr s = .ok d s :=
  ((call1 h rfl).trans (f_fault_of told_vd)).trans (by rw [k])
def wide (n : Nat) : List (List Int) := List.replicate n []
theorem wide_eq (n : Nat) : D.tup (List.replicate n (.tup [])) = rowsI (wide n) := by
  unfold rowsI wide
  rw [List.map_replicate]
  rfl
theorem w1 : isNonB (faultD (.tup [rowsI (wide 40), rowsI (wide 40)])) = true := by decide +kernel
theorem w2 : isNonB (faultD (.tup [rowsI (wide 41), rowsI (wide 40)])) = false := by decide +kernel
theorem w3 : isNonB (faultD (.tup [rowsI (wide 40), rowsI (wide 41)])) = false := by decide +kernel
theorem d1 : faultD (.tup [rowsI [[0]], rowsI [[]]]) = .tup [.str "left", .int 0, .int 0] := rfl
theorem d2 : faultD (.tup [rowsI [[]], rowsI [[0]]]) = .tup [.str "right", .int 0, .int 0] := rfl
theorem d3 : faultD (.tup [rowsI [[0, 0]], rowsI [[0]]]) = .tup [.str "form"] := rfl
theorem d4 : faultD (.tup [rowsI [[1, 0], [0]], rowsI [[0], [0, 1]]]) = .tup [.str "left", .int 1, .int 0] := rfl
def due : List D := [.bl true, .bl false, .bl false, .tup [.str "left", .int 0, .int 0], .tup [.str "right", .int 0, .int 0], .tup [.str "form"], .tup [.str "left", .int 1, .int 0]]
theorem due_eq {s : Sto} {a b : Nat} (h1 : s[a]? = some (.lst due)) (h2 : s[b]? = some (.lst due)) : cmpD .Eq (.ref a) (.ref b) s = .ok (.bl true) s := by
  have t : optAll (toPy s 64) due = some [.bool true, .bool false, .bool false, .tuple [.str "left", .int 0, .int 0], .tuple [.str "right", .int 0, .int 0], .tuple [.str "form"], .tuple [.str "left", .int 1, .int 0]] := rfl
  have e : ∀ k, s[k]? = some (.lst due) → toPy s 65 (.ref k) = some (.list [.bool true, .bool false, .bool false, .tuple [.str "left", .int 0, .int 0], .tuple [.str "right", .int 0, .int 0], .tuple [.str "form"], .tuple [.str "left", .int 1, .int 0]]) := fun k hk => by
    show (match (s[k]?).map Cell.bare with
      | some (.lst xs) => (optAll (toPy s 64) xs).map PyData.list
      | _ => none) = _
    rw [hk]
    show (optAll (toPy s 64) due).map PyData.list = _
    rw [t]
    rfl
  have q : eqPy s (.ref a) (.ref b) = some true := by
    unfold eqPy
    rw [e a h1, e b h2]
    decide +kernel
  show eqD (.ref a) (.ref b) s = _
  unfold eqD eqStr
  simp only [q]
theorem law_plain (ns : List Int) (hn : ns.length ≤ 63) : ∃ st', F_law [scriptD ns] [] = .ok (.bl true) st' := by
  have hl : ∀ s, lenD (scriptD ns) s = .ok (.int ns.length) s := fun s => by
    show R.ok (D.int (ns.map D.int).length) s = _
    rw [List.length_map]
  obtain ⟨t, et, t5⟩ : ∃ t : Nat, (bin2 maxD (conE (.int 1)) (bin2 minD (conE (.int 5)) (un1 lenD (varE 0)))) (lfr ns none none none none none none none) [] = .ok (.int t) [] ∧ t ≤ 5 := by
    by_cases q : (ns.length : Int) < 5
    · have m : minD (.int 5) (.int ns.length) [] = .ok (.int ns.length) [] := by
        show R.ok (D.int (if (ns.length : Int) < 5 then (ns.length : Int) else 5)) [] = _
        rw [if_pos q]
      by_cases q2 : (ns.length : Int) > 1
      · refine ⟨ns.length, (bin_at (x := .int 1) rfl ((bin_at (x := .int 5) rfl ((un_at rfl).trans (hl _))).trans m)).trans ?_, by omega⟩
        show R.ok (D.int (if (ns.length : Int) > 1 then (ns.length : Int) else 1)) [] = _
        rw [if_pos q2]
      · refine ⟨1, (bin_at (x := .int 1) rfl ((bin_at (x := .int 5) rfl ((un_at rfl).trans (hl _))).trans m)).trans ?_, by omega⟩
        show R.ok (D.int (if (ns.length : Int) > 1 then (ns.length : Int) else 1)) [] = _
        rw [if_neg q2]
        rfl
    · have m : minD (.int 5) (.int ns.length) [] = .ok (.int 5) [] := by
        show R.ok (D.int (if (ns.length : Int) < 5 then (ns.length : Int) else 5)) [] = _
        rw [if_neg q]
      exact ⟨5, (bin_at (x := .int 1) rfl ((bin_at (x := .int 5) rfl ((un_at rfl).trans (hl _))).trans m)).trans rfl, by omega⟩
  obtain ⟨s1, o1, o6, o7, e1⟩ := spot_loop hn ((List.range t).map fun i : Nat => D.int i) [] none none none fun x hx => by
    obtain ⟨i, hi, rfl⟩ := List.mem_map.mp hx
    have := List.mem_range.mp hi
    exact ⟨i, rfl, by omega⟩
  have q1 := forS_ok (q := setT 1) (body := spotS) (range1_at et (by omega)) e1
  rw [unlocks_nil] at q1
  have t1 : ∀ (s : Sto) (xs : List D), tupleD (.tmp (.lst xs)) s = .ok (.tup xs) s := fun _ _ => rfl
  have ew : ∀ n : Nat, n ≤ 1000 → (un1 tupleD (bin2 mulD (lstE [(tupE [])]) (conE (.int n)))) (lfr ns o1 none none none none o6 o7) s1 = .ok (rowsI (wide n)) s1 := fun n h => by
    rw [← wide_eq]
    exact (un_at ((bin_at (x := .tmp (.lst [.tup []])) (y := .int n) rfl rfl).trans (rep_at h))).trans (t1 _ _)
  have q2 : asgS (tupT [(setT 2), (setT 3)]) (tupE [(un1 tupleD (bin2 mulD (lstE [(tupE [])]) (conE (.int 40)))), (un1 tupleD (bin2 mulD (lstE [(tupE [])]) (conE (.int 41))))]) (lfr ns o1 none none none none o6 o7) s1 = .ok (.nx (lfr ns o1 (some (rowsI (wide 40))) (some (rowsI (wide 41))) none none o6 o7)) s1 := asg_two (tup_two (ew 40 (by omega)) rfl (ew 41 (by omega)) rfl) rfl rfl
  have ea : ∀ fr : Fr, varE 2 fr = (fun s => .ok (rowsI (wide 40)) s) → varE 3 fr = (fun s => .ok (rowsI (wide 41)) s) → (lstE [(callE 1 F_is_wishes [(tupE [(varE 2), (varE 2)])]), (callE 1 F_is_wishes [(tupE [(varE 3), (varE 2)])]), (callE 1 F_is_wishes [(tupE [(varE 2), (varE 3)])]), (callE 1 F_fault_of [(tupE [(tupE [(tupE [(conE (.int 0))])]), (tupE [(tupE [])])])])]) fr s1 = .ok (.tmp (.lst [.bl true, .bl false, .bl false, .tup [.str "left", .int 0, .int 0]])) s1 := fun fr h2 h3 =>
    lst_at (allS_k (is_at (tup_two (congrFun h2 s1) rfl (congrFun h2 s1) rfl) w1) rfl (allS_k (is_at (tup_two (congrFun h3 s1) rfl (congrFun h2 s1) rfl) w2) rfl (allS_k (is_at (tup_two (congrFun h2 s1) rfl (congrFun h3 s1) rfl) w3) rfl (allS_k (fault_at rfl d1) rfl allS_nil))))
  have q3 := asg_new (i := 4) (ea (lfr ns o1 (some (rowsI (wide 40))) (some (rowsI (wide 41))) none none o6 o7) rfl rfl)
  have c4 : (s1 ++ [Cell.lst [.bl true, .bl false, .bl false, .tup [.str "left", .int 0, .int 0]]])[s1.length]? = some (.lst [.bl true, .bl false, .bl false, .tup [.str "left", .int 0, .int 0]]) := cell_new
  generalize s1 ++ [Cell.lst [.bl true, .bl false, .bl false, .tup [.str "left", .int 0, .int 0]]] = s2 at q3 c4
  have eb : ∀ fr, (lstE [(callE 1 F_fault_of [(tupE [(tupE [(tupE [])]), (tupE [(tupE [(conE (.int 0))])])])]), (callE 1 F_fault_of [(tupE [(tupE [(tupE [(conE (.int 0)), (conE (.int 0))])]), (tupE [(tupE [(conE (.int 0))])])])])]) fr s2 = .ok (.tmp (.lst [.tup [.str "right", .int 0, .int 0], .tup [.str "form"]])) s2 := fun fr =>
    lst_at (allS_k (fault_at rfl d2) rfl (allS_k (fault_at rfl d3) rfl allS_nil))
  have q4 := asg_new (i := 4) ((bin_at (a := varE 4) (f := addD) (x := .ref s1.length) (fr := lfr ns o1 (some (rowsI (wide 40))) (some (rowsI (wide 41))) (some (.ref s1.length)) none o6 o7) rfl (eb _)).trans (add_tmp c4 (by simp)))
  have c5 : (s2 ++ [Cell.lst ([.bl true, .bl false, .bl false, .tup [.str "left", .int 0, .int 0]] ++ [.tup [.str "right", .int 0, .int 0], .tup [.str "form"]])])[s2.length]? = some (.lst ([.bl true, .bl false, .bl false, .tup [.str "left", .int 0, .int 0]] ++ [.tup [.str "right", .int 0, .int 0], .tup [.str "form"]])) := cell_new
  generalize s2 ++ [Cell.lst ([.bl true, .bl false, .bl false, .tup [.str "left", .int 0, .int 0]] ++ [.tup [.str "right", .int 0, .int 0], .tup [.str "form"]])] = s3 at q4 c5
  have q5 := app_call (o := varE 4) (a := callE 1 F_fault_of [(tupE [(tupE [(tupE [(conE (.int 1)), (conE (.int 0))]), (tupE [(conE (.int 0))])]), (tupE [(tupE [(conE (.int 0))]), (tupE [(conE (.int 0)), (conE (.int 1))])])])]) (fr := lfr ns o1 (some (rowsI (wide 40))) (some (rowsI (wide 41))) (some (.ref s2.length)) none o6 o7) (s := s3) (k := s2.length) rfl (fault_at rfl d4) c5 c5 rfl (by simp)
  have c6 : (s3.set s2.length (Cell.lst ([.bl true, .bl false, .bl false, .tup [.str "left", .int 0, .int 0]] ++ [.tup [.str "right", .int 0, .int 0], .tup [.str "form"]] ++ [.tup [.str "left", .int 1, .int 0]])))[s2.length]? = some (.lst due) := List.getElem?_set_self (cell_lt c5)
  generalize s3.set s2.length (Cell.lst ([.bl true, .bl false, .bl false, .tup [.str "left", .int 0, .int 0]] ++ [.tup [.str "right", .int 0, .int 0], .tup [.str "form"]] ++ [.tup [.str "left", .int 1, .int 0]])) = s4 at q5 c6
  have ed : ∀ fr, (lstE [(conE (.bl true)), (conE (.bl false)), (conE (.bl false)), (tupE [(conE (.str "left")), (conE (.int 0)), (conE (.int 0))]), (tupE [(conE (.str "right")), (conE (.int 0)), (conE (.int 0))]), (tupE [(conE (.str "form"))]), (tupE [(conE (.str "left")), (conE (.int 1)), (conE (.int 0))])]) fr s4 = .ok (.tmp (.lst due)) s4 := fun fr => rfl
  have q6 := asg_new (i := 5) (ed (lfr ns o1 (some (rowsI (wide 40))) (some (rowsI (wide 41))) (some (.ref s2.length)) none o6 o7))
  have eq : bin2 (cmpD .Eq) (varE 4) (varE 5) (lfr ns o1 (some (rowsI (wide 40))) (some (rowsI (wide 41))) (some (.ref s2.length)) (some (.ref s4.length)) o6 o7) (s4 ++ [.lst due]) = .ok (.bl true) (s4 ++ [.lst due]) := (bin_at rfl rfl).trans (due_eq (cell_app c6) cell_new)
  have e40 : bin2 (cmpD .Eq) (conE (.int 40)) (conE (.int 40)) (lfr ns o1 (some (rowsI (wide 40))) (some (rowsI (wide 41))) (some (.ref s2.length)) (some (.ref s4.length)) o6 o7) (s4 ++ [.lst due]) = .ok (.bl true) (s4 ++ [.lst due]) := (bin_at (x := .int 40) (y := .int 40) rfl rfl).trans (show cmpD .Eq (.int 40) (.int 40) _ = _ from eqD_int.trans rfl)
  have ea2 : andE (bin2 (cmpD .Eq) (varE 4) (varE 5)) (bin2 (cmpD .Eq) (conE (.int 40)) (conE (.int 40))) (lfr ns o1 (some (rowsI (wide 40))) (some (rowsI (wide 41))) (some (.ref s2.length)) (some (.ref s4.length)) o6 o7) (s4 ++ [.lst due]) = .ok (.bl true) (s4 ++ [.lst due]) := by
    rw [andE_app, eq, bnd_ok, bnd_app, truD_bl, bnd_ok, if_pos rfl, e40]
  have body : B_law ([scriptD ns].map some ++ List.replicate 7 none) [] = .ok (.rt (.bl true)) (s4 ++ [.lst due]) := by
    refine (seq_nx q1).trans ?_
    refine (seq_nx q2).trans ?_
    refine (seq_nx q3).trans ?_
    refine (seq_nx q4).trans ?_
    refine (seq_nx q5).trans ?_
    refine (seq_nx q6).trans ?_
    exact ret_at ea2
  refine ⟨(s4 ++ [Cell.lst due]).take 0, (fnD_ok (n := 1) (m := 7) rfl body).trans ?_⟩
  show Ev.sweep [] (.bl true) (s4 ++ [.lst due]) = _
  unfold Ev.sweep
  have kp : Kept [] (s4 ++ [Cell.lst due]) := ⟨fun i c h _ => absurd h (Nat.not_lt_zero i), Nat.zero_le _⟩
  have low : (D.bl true).lower ([] : Sto).length = true := rfl
  rw [if_pos kp, if_pos low]
  rfl
end Law
set_option Elab.async false
set_option linter.all false
set_option maxRecDepth 100000
set_option maxHeartbeats 0
/-! the head -/
namespace Law
open PySem PySem.Spec PyProof.Rows L2 Ev
def d_is_whole : He.DefD := ⟨("is_whole", none), "is_whole", "is_whole", defArgs (top 2), defBody (top 2), defScope (top 2), [], []⟩
def d_is_within : He.DefD := ⟨("is_within", none), "is_within", "is_within", defArgs (top 3), defBody (top 3), defScope (top 3), [], []⟩
def d_is_pair : He.DefD := ⟨("is_pair", none), "is_pair", "is_pair", defArgs (top 4), defBody (top 4), defScope (top 4), [], []⟩
def d_is_side_of_lists : He.DefD := ⟨("is_side_of_lists", none), "is_side_of_lists", "is_side_of_lists", defArgs (top 10), defBody (top 10), defScope (top 10), [], []⟩
def d_is_list_of : He.DefD := ⟨("is_list_of", none), "is_list_of", "is_list_of", defArgs (top 11), defBody (top 11), defScope (top 11), [], []⟩
def d_has_form : He.DefD := ⟨("has_form", none), "has_form", "has_form", defArgs (top 12), defBody (top 12), defScope (top 12), [], []⟩
def d_fault_in : He.DefD := ⟨("fault_in", none), "fault_in", "fault_in", defArgs (top 13), defBody (top 13), defScope (top 13), [], []⟩
def d_is_wishes_in : He.DefD := ⟨("is_wishes_in", none), "is_wishes_in", "is_wishes_in", defArgs (top 14), defBody (top 14), defScope (top 14), [], []⟩
def d_is_wishes : He.DefD := ⟨("is_wishes", none), "is_wishes", "is_wishes", defArgs (top 15), defBody (top 15), defScope (top 15), [], []⟩
def d_fault_of : He.DefD := ⟨("fault_of", none), "fault_of", "fault_of", defArgs (top 16), defBody (top 16), defScope (top 16), [], []⟩
def d__law_dice : He.DefD := ⟨("_law_dice", none), "_law_dice", "_law_dice", defArgs (top 18), defBody (top 18), defScope (top 18), [], []⟩
def d__law_roll : He.DefD := ⟨("_law_roll", none), "_law_roll", "_law_roll", defArgs (top 19), defBody (top 19), defScope (top 19), [], []⟩
def d__law_pick : He.DefD := ⟨("_law_pick", none), "_law_pick", "_law_pick", defArgs (top 20), defBody (top 20), defScope (top 20), [], []⟩
def d__law_mixed : He.DefD := ⟨("_law_mixed", none), "_law_mixed", "_law_mixed", defArgs (top 21), defBody (top 21), defScope (top 21), [], []⟩
def d__law_wishes_of : He.DefD := ⟨("_law_wishes_of", none), "_law_wishes_of", "_law_wishes_of", defArgs (top 22), defBody (top 22), defScope (top 22), [], []⟩
def d__law_grid : He.DefD := ⟨("_law_grid", none), "_law_grid", "_law_grid", defArgs (top 23), defBody (top 23), defScope (top 23), [], []⟩
def d__law_whole_wishes : He.DefD := ⟨("_law_whole_wishes", none), "_law_whole_wishes", "_law_whole_wishes", defArgs (top 24), defBody (top 24), defScope (top 24), [], []⟩
def d__law_cut_wishes : He.DefD := ⟨("_law_cut_wishes", none), "_law_cut_wishes", "_law_cut_wishes", defArgs (top 25), defBody (top 25), defScope (top 25), [], []⟩
def d__law_ring_wishes : He.DefD := ⟨("_law_ring_wishes", none), "_law_ring_wishes", "_law_ring_wishes", defArgs (top 26), defBody (top 26), defScope (top 26), [], []⟩
def d__law_beside : He.DefD := ⟨("_law_beside", none), "_law_beside", "_law_beside", defArgs (top 27), defBody (top 27), defScope (top 27), [], []⟩
def d__law_renamed_wishes : He.DefD := ⟨("_law_renamed_wishes", none), "_law_renamed_wishes", "_law_renamed_wishes", defArgs (top 28), defBody (top 28), defScope (top 28), [], []⟩
def d__law_master_wishes : He.DefD := ⟨("_law_master_wishes", none), "_law_master_wishes", "_law_master_wishes", defArgs (top 29), defBody (top 29), defScope (top 29), [], []⟩
def d__law_drawn_wishes : He.DefD := ⟨("_law_drawn_wishes", none), "_law_drawn_wishes", "_law_drawn_wishes", defArgs (top 30), defBody (top 30), defScope (top 30), [], []⟩
def d__law_is_side : He.DefD := ⟨("_law_is_side", none), "_law_is_side", "_law_is_side", defArgs (top 31), defBody (top 31), defScope (top 31), [], []⟩
def d__law_fault : He.DefD := ⟨("_law_fault", none), "_law_fault", "_law_fault", defArgs (top 32), defBody (top 32), defScope (top 32), [], []⟩
def d__law_bent : He.DefD := ⟨("_law_bent", none), "_law_bent", "_law_bent", defArgs (top 33), defBody (top 33), defScope (top 33), [], []⟩
def d__law_right : He.DefD := ⟨("_law_right", none), "_law_right", "_law_right", defArgs (top 34), defBody (top 34), defScope (top 34), [], []⟩
def d_law : He.DefD := ⟨("law", none), "law", "law", defArgs (top 35), defBody (top 35), defScope (top 35), [], []⟩
def fn : List He.DefD := [d_is_whole, d_is_within, d_is_pair, d_is_side_of_lists, d_is_list_of, d_has_form, d_fault_in, d_is_wishes_in, d_is_wishes, d_fault_of, d__law_dice, d__law_roll, d__law_pick, d__law_mixed, d__law_wishes_of, d__law_grid, d__law_whole_wishes, d__law_cut_wishes, d__law_ring_wishes, d__law_beside, d__law_renamed_wishes, d__law_master_wishes, d__law_drawn_wishes, d__law_is_side, d__law_fault, d__law_bent, d__law_right, d_law]
def fa : List He.Fa := [.glo "is_whole", .glo "is_within", .glo "is_pair", .glo "is_side_of_lists", .glo "is_list_of", .glo "has_form", .glo "fault_in", .glo "is_wishes_in", .glo "is_wishes", .glo "fault_of", .glo "_law_dice", .glo "_law_roll", .glo "_law_pick", .glo "_law_mixed", .glo "_law_wishes_of", .glo "_law_grid", .glo "_law_whole_wishes", .glo "_law_cut_wishes", .glo "_law_ring_wishes", .glo "_law_beside", .glo "_law_renamed_wishes", .glo "_law_master_wishes", .glo "_law_drawn_wishes", .glo "_law_is_side", .glo "_law_fault", .glo "_law_bent", .glo "_law_right", .glo "law", .int "PAIR_SIZE" 2, .int "MOST_PERSONS" 40, .str "LEFT" "left", .str "RIGHT" "right", .str "FORM" "form", .free "abs", .free "all", .free "bool", .free "dict", .free "enumerate", .free "int", .free "isinstance", .free "len", .free "list", .free "max", .free "min", .free "range", .free "repr", .free "tuple"]
abbrev R : PySem.W.OpenRow := PySem.W.OpenLaw.row PySem.Challenge.rw_staypairs_k01_whole_wishes_judged
abbrev hk : PySem.W.Hook := He.hookD 4 fa fn
def ob (s : PySem.W.SharedT) : He.AlD := He.obsDG 4 fa fn (HandSHeadRun.getT s)
theorem ob_eq (s : PySem.W.SharedT) : ob s = hk.obs s.abs := He.obsDG_eq (HandSHeadRun.getT_eq s)
def loose0 : List Str := ["is_whole", "is_within", "is_pair", "is_side_of_lists", "is_list_of", "has_form", "fault_in", "is_wishes_in", "is_wishes", "fault_of", "_law_dice", "_law_roll", "_law_pick", "_law_mixed", "_law_wishes_of", "_law_grid", "_law_whole_wishes", "_law_cut_wishes", "_law_ring_wishes", "_law_beside", "_law_renamed_wishes", "_law_master_wishes", "_law_drawn_wishes", "_law_is_side", "_law_fault", "_law_bent", "_law_right", "PAIR_SIZE", "MOST_PERSONS", "LEFT"]
def loose1 : List Str := ["RIGHT", "FORM"]
def loose : List Str := loose0 ++ loose1
theorem run (w : World) : HandSHeadRun.RunEq R (PySem.W.view R.prog [35]) hk ob 2000 loose w := by
  intro os
  kernel_rfl
/-- what the head tells -/
structure Fx (K : PySem.W.Frag) (mg : Str → Option Value) : Prop where
  ex : ∃ h : Heap, K.In h ∧ h.Ns mainGlobals mg ∧ He.SaysD fa fn K
section
variable {P : Program} {w : World} {K : PySem.W.Frag} {mg : Str → Option Value} {base : Heap}
theorem hV (c : Fx K mg) : ∀ p ∈ cV, ∃ u v, mg p.1 = some u ∧ RelV v u ∧ GloV K p.2 v := by
  obtain ⟨h, X, G, s⟩ := c.ex
  exact (all_cons (con_int (He.int_ok X G (s.fact 28 (f := .int "PAIR_SIZE" 2) rfl))) (all_cons (con_int (He.int_ok X G (s.fact 29 (f := .int "MOST_PERSONS" 40) rfl))) (all_cons (con_str (He.str_ok X G (s.fact 30 (f := .str "LEFT" "left") rfl))) (all_cons (con_str (He.str_ok X G (s.fact 31 (f := .str "RIGHT" "right") rfl))) (all_cons (con_str (He.str_ok X G (s.fact 32 (f := .str "FORM" "form") rfl))) all_nil)))))
theorem hB (c : Fx K mg) : ∀ x ∈ cB, mg x = none := by
  obtain ⟨h, X, G, s⟩ := c.ex
  exact (all_cons (He.free_ok X G (s.fact 33 (f := .free "abs") rfl)) (all_cons (He.free_ok X G (s.fact 34 (f := .free "all") rfl)) (all_cons (He.free_ok X G (s.fact 35 (f := .free "bool") rfl)) (all_cons (He.free_ok X G (s.fact 36 (f := .free "dict") rfl)) (all_cons (He.free_ok X G (s.fact 37 (f := .free "enumerate") rfl)) (all_cons (He.free_ok X G (s.fact 38 (f := .free "int") rfl)) (all_cons (He.free_ok X G (s.fact 39 (f := .free "isinstance") rfl)) (all_cons (He.free_ok X G (s.fact 40 (f := .free "len") rfl)) (all_cons (He.free_ok X G (s.fact 41 (f := .free "list") rfl)) (all_cons (He.free_ok X G (s.fact 42 (f := .free "max") rfl)) (all_cons (He.free_ok X G (s.fact 43 (f := .free "min") rfl)) (all_cons (He.free_ok X G (s.fact 44 (f := .free "range") rfl)) (all_cons (He.free_ok X G (s.fact 45 (f := .free "repr") rfl)) (all_cons (He.free_ok X G (s.fact 46 (f := .free "tuple") rfl)) all_nil))))))))))))))
theorem sc_is_whole : FnScope N_is_whole ["value"] (defScope (top 2)) := ⟨rfl, rfl, rfl, by decide +kernel, rfl, by decide +kernel, by decide +kernel⟩
theorem ok_is_whole (c : Fx K mg) {f : Addr} {fd : FuncData} (F : FunD K "is_whole" "is_whole" (defArgs (top 2)) (defBody (top 2)) (defScope (top 2)) [] [] f fd) : FnG P w K mg base (CX P w) 1 f fd ["value"] (spOf K 1 F_is_whole) :=
  def_ok (C := C_is_whole) (m := 0) (trs_ok rules_ok 40) stmts_ok (world_of all_nil (hV c) (hB c)) F sc_is_whole rfl rfl rfl tr_is_whole
theorem kn_is_whole (c : Fx K mg) : Knows P w K mg base "is_whole" I_is_whole := by
  obtain ⟨h, X, G, s⟩ := c.ex
  obtain ⟨fd, F⟩ := s.def_ 0 (d := d_is_whole) rfl
  exact def_knows (ps := ["value"]) F (He.glo_ok X G (s.fact 0 (f := .glo "is_whole") rfl)) (FunD.bindsN F fun _ _ _ _ _ _ us hl => match us, hl with | [_], _ => rfl) (ok_is_whole c F)
theorem sc_is_pair : FnScope N_is_pair ["value"] (defScope (top 4)) := ⟨rfl, rfl, rfl, by decide +kernel, rfl, by decide +kernel, by decide +kernel⟩
theorem ok_is_pair (c : Fx K mg) {f : Addr} {fd : FuncData} (F : FunD K "is_pair" "is_pair" (defArgs (top 4)) (defBody (top 4)) (defScope (top 4)) [] [] f fd) : FnG P w K mg base (CX P w) 1 f fd ["value"] (spOf K 1 F_is_pair) :=
  def_ok (C := C_is_pair) (m := 0) (trs_ok rules_ok 40) stmts_ok (world_of all_nil (hV c) (hB c)) F sc_is_pair rfl rfl rfl tr_is_pair
theorem kn_is_pair (c : Fx K mg) : Knows P w K mg base "is_pair" I_is_pair := by
  obtain ⟨h, X, G, s⟩ := c.ex
  obtain ⟨fd, F⟩ := s.def_ 2 (d := d_is_pair) rfl
  exact def_knows (ps := ["value"]) F (He.glo_ok X G (s.fact 2 (f := .glo "is_pair") rfl)) (FunD.bindsN F fun _ _ _ _ _ _ us hl => match us, hl with | [_], _ => rfl) (ok_is_pair c F)
theorem sc__law_dice : FnScope N__law_dice ["script", "spot"] (defScope (top 18)) := ⟨rfl, rfl, rfl, by decide +kernel, rfl, by decide +kernel, by decide +kernel⟩
theorem ok__law_dice (c : Fx K mg) {f : Addr} {fd : FuncData} (F : FunD K "_law_dice" "_law_dice" (defArgs (top 18)) (defBody (top 18)) (defScope (top 18)) [] [] f fd) : FnG P w K mg base (CX P w) 1 f fd ["script", "spot"] (spOf K 2 F__law_dice) :=
  def_ok (C := C__law_dice) (m := 2) (trs_ok rules_ok 40) stmts_ok (world_of all_nil (hV c) (hB c)) F sc__law_dice rfl rfl rfl tr__law_dice
theorem kn__law_dice (c : Fx K mg) : Knows P w K mg base "_law_dice" I__law_dice := by
  obtain ⟨h, X, G, s⟩ := c.ex
  obtain ⟨fd, F⟩ := s.def_ 10 (d := d__law_dice) rfl
  exact def_knows (ps := ["script", "spot"]) F (He.glo_ok X G (s.fact 10 (f := .glo "_law_dice") rfl)) (FunD.bindsN F fun _ _ _ _ _ _ us hl => match us, hl with | [_, _], _ => rfl) (ok__law_dice c F)
theorem sc__law_roll : FnScope N__law_roll ["dice", "total"] (defScope (top 19)) := ⟨rfl, rfl, rfl, by decide +kernel, rfl, by decide +kernel, by decide +kernel⟩
theorem ok__law_roll (c : Fx K mg) {f : Addr} {fd : FuncData} (F : FunD K "_law_roll" "_law_roll" (defArgs (top 19)) (defBody (top 19)) (defScope (top 19)) [] [] f fd) : FnG P w K mg base (CX P w) 1 f fd ["dice", "total"] (spOf K 2 F__law_roll) :=
  def_ok (C := C__law_roll) (m := 3) (trs_ok rules_ok 40) stmts_ok (world_of all_nil (hV c) (hB c)) F sc__law_roll rfl rfl rfl tr__law_roll
theorem kn__law_roll (c : Fx K mg) : Knows P w K mg base "_law_roll" I__law_roll := by
  obtain ⟨h, X, G, s⟩ := c.ex
  obtain ⟨fd, F⟩ := s.def_ 11 (d := d__law_roll) rfl
  exact def_knows (ps := ["dice", "total"]) F (He.glo_ok X G (s.fact 11 (f := .glo "_law_roll") rfl)) (FunD.bindsN F fun _ _ _ _ _ _ us hl => match us, hl with | [_, _], _ => rfl) (ok__law_roll c F)
theorem sc__law_grid : FnScope N__law_grid ["n", "m"] (defScope (top 23)) := ⟨rfl, rfl, rfl, by decide +kernel, rfl, by decide +kernel, by decide +kernel⟩
theorem ok__law_grid (c : Fx K mg) {f : Addr} {fd : FuncData} (F : FunD K "_law_grid" "_law_grid" (defArgs (top 23)) (defBody (top 23)) (defScope (top 23)) [] [] f fd) : FnG P w K mg base (CX P w) 1 f fd ["n", "m"] (spOf K 2 F__law_grid) :=
  def_ok (C := C__law_grid) (m := 3) (trs_ok rules_ok 40) stmts_ok (world_of all_nil (hV c) (hB c)) F sc__law_grid rfl rfl rfl tr__law_grid
theorem kn__law_grid (c : Fx K mg) : Knows P w K mg base "_law_grid" I__law_grid := by
  obtain ⟨h, X, G, s⟩ := c.ex
  obtain ⟨fd, F⟩ := s.def_ 15 (d := d__law_grid) rfl
  exact def_knows (ps := ["n", "m"]) F (He.glo_ok X G (s.fact 15 (f := .glo "_law_grid") rfl)) (FunD.bindsN F fun _ _ _ _ _ _ us hl => match us, hl with | [_, _], _ => rfl) (ok__law_grid c F)
theorem sc__law_beside : FnScope N__law_beside ["one", "other"] (defScope (top 27)) := ⟨rfl, rfl, rfl, by decide +kernel, rfl, by decide +kernel, by decide +kernel⟩
theorem ok__law_beside (c : Fx K mg) {f : Addr} {fd : FuncData} (F : FunD K "_law_beside" "_law_beside" (defArgs (top 27)) (defBody (top 27)) (defScope (top 27)) [] [] f fd) : FnG P w K mg base (CX P w) 1 f fd ["one", "other"] (spOf K 2 F__law_beside) :=
  def_ok (C := C__law_beside) (m := 6) (trs_ok rules_ok 40) stmts_ok (world_of all_nil (hV c) (hB c)) F sc__law_beside rfl rfl rfl tr__law_beside
theorem kn__law_beside (c : Fx K mg) : Knows P w K mg base "_law_beside" I__law_beside := by
  obtain ⟨h, X, G, s⟩ := c.ex
  obtain ⟨fd, F⟩ := s.def_ 19 (d := d__law_beside) rfl
  exact def_knows (ps := ["one", "other"]) F (He.glo_ok X G (s.fact 19 (f := .glo "_law_beside") rfl)) (FunD.bindsN F fun _ _ _ _ _ _ us hl => match us, hl with | [_, _], _ => rfl) (ok__law_beside c F)
theorem sc__law_is_side : FnScope N__law_is_side ["value", "many"] (defScope (top 31)) := ⟨rfl, rfl, rfl, by decide +kernel, rfl, by decide +kernel, by decide +kernel⟩
theorem ok__law_is_side (c : Fx K mg) {f : Addr} {fd : FuncData} (F : FunD K "_law_is_side" "_law_is_side" (defArgs (top 31)) (defBody (top 31)) (defScope (top 31)) [] [] f fd) : FnG P w K mg base (CX P w) 1 f fd ["value", "many"] (spOf K 2 F__law_is_side) :=
  def_ok (C := C__law_is_side) (m := 2) (trs_ok rules_ok 40) stmts_ok (world_of all_nil (hV c) (hB c)) F sc__law_is_side rfl rfl rfl tr__law_is_side
theorem kn__law_is_side (c : Fx K mg) : Knows P w K mg base "_law_is_side" I__law_is_side := by
  obtain ⟨h, X, G, s⟩ := c.ex
  obtain ⟨fd, F⟩ := s.def_ 23 (d := d__law_is_side) rfl
  exact def_knows (ps := ["value", "many"]) F (He.glo_ok X G (s.fact 23 (f := .glo "_law_is_side") rfl)) (FunD.bindsN F fun _ _ _ _ _ _ us hl => match us, hl with | [_, _], _ => rfl) (ok__law_is_side c F)
theorem sc_is_within : FnScope N_is_within ["value", "least", "most"] (defScope (top 3)) := ⟨rfl, rfl, rfl, by decide +kernel, rfl, by decide +kernel, by decide +kernel⟩
theorem ok_is_within (c : Fx K mg) {f : Addr} {fd : FuncData} (F : FunD K "is_within" "is_within" (defArgs (top 3)) (defBody (top 3)) (defScope (top 3)) [] [] f fd) : FnG P w K mg base (CX P w) 2 f fd ["value", "least", "most"] (spOf K 3 F_is_within) :=
  def_ok (C := C_is_within) (m := 0) (trs_ok rules_ok 40) stmts_ok (world_of (all_cons ⟨kn_is_whole c, by decide⟩ all_nil) (hV c) (hB c)) F sc_is_within rfl rfl rfl tr_is_within
theorem kn_is_within (c : Fx K mg) : Knows P w K mg base "is_within" I_is_within := by
  obtain ⟨h, X, G, s⟩ := c.ex
  obtain ⟨fd, F⟩ := s.def_ 1 (d := d_is_within) rfl
  exact def_knows (ps := ["value", "least", "most"]) F (He.glo_ok X G (s.fact 1 (f := .glo "is_within") rfl)) (FunD.bindsN F fun _ _ _ _ _ _ us hl => match us, hl with | [_, _, _], _ => rfl) (ok_is_within c F)
theorem sc__law_pick : FnScope N__law_pick ["dice", "items"] (defScope (top 20)) := ⟨rfl, rfl, rfl, by decide +kernel, rfl, by decide +kernel, by decide +kernel⟩
theorem ok__law_pick (c : Fx K mg) {f : Addr} {fd : FuncData} (F : FunD K "_law_pick" "_law_pick" (defArgs (top 20)) (defBody (top 20)) (defScope (top 20)) [] [] f fd) : FnG P w K mg base (CX P w) 2 f fd ["dice", "items"] (spOf K 2 F__law_pick) :=
  def_ok (C := C__law_pick) (m := 0) (trs_ok rules_ok 40) stmts_ok (world_of (all_cons ⟨kn__law_roll c, by decide⟩ all_nil) (hV c) (hB c)) F sc__law_pick rfl rfl rfl tr__law_pick
theorem kn__law_pick (c : Fx K mg) : Knows P w K mg base "_law_pick" I__law_pick := by
  obtain ⟨h, X, G, s⟩ := c.ex
  obtain ⟨fd, F⟩ := s.def_ 12 (d := d__law_pick) rfl
  exact def_knows (ps := ["dice", "items"]) F (He.glo_ok X G (s.fact 12 (f := .glo "_law_pick") rfl)) (FunD.bindsN F fun _ _ _ _ _ _ us hl => match us, hl with | [_, _], _ => rfl) (ok__law_pick c F)
theorem sc__law_mixed : FnScope N__law_mixed ["dice", "items"] (defScope (top 21)) := ⟨rfl, rfl, rfl, by decide +kernel, rfl, by decide +kernel, by decide +kernel⟩
theorem ok__law_mixed (c : Fx K mg) {f : Addr} {fd : FuncData} (F : FunD K "_law_mixed" "_law_mixed" (defArgs (top 21)) (defBody (top 21)) (defScope (top 21)) [] [] f fd) : FnG P w K mg base (CX P w) 2 f fd ["dice", "items"] (spOf K 2 F__law_mixed) :=
  def_ok (C := C__law_mixed) (m := 3) (trs_ok rules_ok 40) stmts_ok (world_of (all_cons ⟨kn__law_roll c, by decide⟩ all_nil) (hV c) (hB c)) F sc__law_mixed rfl rfl rfl tr__law_mixed
theorem kn__law_mixed (c : Fx K mg) : Knows P w K mg base "_law_mixed" I__law_mixed := by
  obtain ⟨h, X, G, s⟩ := c.ex
  obtain ⟨fd, F⟩ := s.def_ 13 (d := d__law_mixed) rfl
  exact def_knows (ps := ["dice", "items"]) F (He.glo_ok X G (s.fact 13 (f := .glo "_law_mixed") rfl)) (FunD.bindsN F fun _ _ _ _ _ _ us hl => match us, hl with | [_, _], _ => rfl) (ok__law_mixed c F)
theorem sc__law_fault : FnScope N__law_fault ["value"] (defScope (top 32)) := ⟨rfl, rfl, rfl, by decide +kernel, rfl, by decide +kernel, by decide +kernel⟩
theorem ok__law_fault (c : Fx K mg) {f : Addr} {fd : FuncData} (F : FunD K "_law_fault" "_law_fault" (defArgs (top 32)) (defBody (top 32)) (defScope (top 32)) [] [] f fd) : FnG P w K mg base (CX P w) 2 f fd ["value"] (spOf K 1 F__law_fault) :=
  def_ok (C := C__law_fault) (m := 3) (trs_ok rules_ok 40) stmts_ok (world_of (all_cons ⟨kn__law_is_side c, by decide⟩ all_nil) (hV c) (hB c)) F sc__law_fault rfl rfl rfl tr__law_fault
theorem kn__law_fault (c : Fx K mg) : Knows P w K mg base "_law_fault" I__law_fault := by
  obtain ⟨h, X, G, s⟩ := c.ex
  obtain ⟨fd, F⟩ := s.def_ 24 (d := d__law_fault) rfl
  exact def_knows (ps := ["value"]) F (He.glo_ok X G (s.fact 24 (f := .glo "_law_fault") rfl)) (FunD.bindsN F fun _ _ _ _ _ _ us hl => match us, hl with | [_], _ => rfl) (ok__law_fault c F)
theorem sc_is_list_of : FnScope N_is_list_of ["value", "most"] (defScope (top 11)) := ⟨rfl, rfl, rfl, by decide +kernel, rfl, by decide +kernel, by decide +kernel⟩
theorem ok_is_list_of (c : Fx K mg) {f : Addr} {fd : FuncData} (F : FunD K "is_list_of" "is_list_of" (defArgs (top 11)) (defBody (top 11)) (defScope (top 11)) [] [] f fd) : FnG P w K mg base (CX P w) 3 f fd ["value", "most"] (spOf K 2 F_is_list_of) :=
  def_ok (C := C_is_list_of) (m := 1) (trs_ok rules_ok 40) stmts_ok (world_of (all_cons ⟨kn_is_within c, by decide⟩ all_nil) (hV c) (hB c)) F sc_is_list_of rfl rfl rfl tr_is_list_of
theorem kn_is_list_of (c : Fx K mg) : Knows P w K mg base "is_list_of" I_is_list_of := by
  obtain ⟨h, X, G, s⟩ := c.ex
  obtain ⟨fd, F⟩ := s.def_ 4 (d := d_is_list_of) rfl
  exact def_knows (ps := ["value", "most"]) F (He.glo_ok X G (s.fact 4 (f := .glo "is_list_of") rfl)) (FunD.bindsN F fun _ _ _ _ _ _ us hl => match us, hl with | [_, _], _ => rfl) (ok_is_list_of c F)
theorem sc__law_wishes_of : FnScope N__law_wishes_of ["dice", "pairs", "n", "m"] (defScope (top 22)) := ⟨rfl, rfl, rfl, by decide +kernel, rfl, by decide +kernel, by decide +kernel⟩
theorem ok__law_wishes_of (c : Fx K mg) {f : Addr} {fd : FuncData} (F : FunD K "_law_wishes_of" "_law_wishes_of" (defArgs (top 22)) (defBody (top 22)) (defScope (top 22)) [] [] f fd) : FnG P w K mg base (CX P w) 3 f fd ["dice", "pairs", "n", "m"] (spOf K 4 F__law_wishes_of) :=
  def_ok (C := C__law_wishes_of) (m := 5) (trs_ok rules_ok 40) stmts_ok (world_of (all_cons ⟨kn__law_mixed c, by decide⟩ all_nil) (hV c) (hB c)) F sc__law_wishes_of rfl rfl rfl tr__law_wishes_of
theorem kn__law_wishes_of (c : Fx K mg) : Knows P w K mg base "_law_wishes_of" I__law_wishes_of := by
  obtain ⟨h, X, G, s⟩ := c.ex
  obtain ⟨fd, F⟩ := s.def_ 14 (d := d__law_wishes_of) rfl
  exact def_knows (ps := ["dice", "pairs", "n", "m"]) F (He.glo_ok X G (s.fact 14 (f := .glo "_law_wishes_of") rfl)) (FunD.bindsN F fun _ _ _ _ _ _ us hl => match us, hl with | [_, _, _, _], _ => rfl) (ok__law_wishes_of c F)
theorem sc__law_ring_wishes : FnScope N__law_ring_wishes ["dice", "n"] (defScope (top 26)) := ⟨rfl, rfl, rfl, by decide +kernel, rfl, by decide +kernel, by decide +kernel⟩
theorem ok__law_ring_wishes (c : Fx K mg) {f : Addr} {fd : FuncData} (F : FunD K "_law_ring_wishes" "_law_ring_wishes" (defArgs (top 26)) (defBody (top 26)) (defScope (top 26)) [] [] f fd) : FnG P w K mg base (CX P w) 3 f fd ["dice", "n"] (spOf K 2 F__law_ring_wishes) :=
  def_ok (C := C__law_ring_wishes) (m := 7) (trs_ok rules_ok 40) stmts_ok (world_of (all_cons ⟨kn__law_pick c, by decide⟩ (all_cons ⟨kn__law_roll c, by decide⟩ all_nil)) (hV c) (hB c)) F sc__law_ring_wishes rfl rfl rfl tr__law_ring_wishes
theorem kn__law_ring_wishes (c : Fx K mg) : Knows P w K mg base "_law_ring_wishes" I__law_ring_wishes := by
  obtain ⟨h, X, G, s⟩ := c.ex
  obtain ⟨fd, F⟩ := s.def_ 18 (d := d__law_ring_wishes) rfl
  exact def_knows (ps := ["dice", "n"]) F (He.glo_ok X G (s.fact 18 (f := .glo "_law_ring_wishes") rfl)) (FunD.bindsN F fun _ _ _ _ _ _ us hl => match us, hl with | [_, _], _ => rfl) (ok__law_ring_wishes c F)
theorem sc__law_renamed_wishes : FnScope N__law_renamed_wishes ["dice", "wishes"] (defScope (top 28)) := ⟨rfl, rfl, rfl, by decide +kernel, rfl, by decide +kernel, by decide +kernel⟩
theorem ok__law_renamed_wishes (c : Fx K mg) {f : Addr} {fd : FuncData} (F : FunD K "_law_renamed_wishes" "_law_renamed_wishes" (defArgs (top 28)) (defBody (top 28)) (defScope (top 28)) [] [] f fd) : FnG P w K mg base (CX P w) 3 f fd ["dice", "wishes"] (spOf K 2 F__law_renamed_wishes) :=
  def_ok (C := C__law_renamed_wishes) (m := 9) (trs_ok rules_ok 40) stmts_ok (world_of (all_cons ⟨kn__law_mixed c, by decide⟩ all_nil) (hV c) (hB c)) F sc__law_renamed_wishes rfl rfl rfl tr__law_renamed_wishes
theorem kn__law_renamed_wishes (c : Fx K mg) : Knows P w K mg base "_law_renamed_wishes" I__law_renamed_wishes := by
  obtain ⟨h, X, G, s⟩ := c.ex
  obtain ⟨fd, F⟩ := s.def_ 20 (d := d__law_renamed_wishes) rfl
  exact def_knows (ps := ["dice", "wishes"]) F (He.glo_ok X G (s.fact 20 (f := .glo "_law_renamed_wishes") rfl)) (FunD.bindsN F fun _ _ _ _ _ _ us hl => match us, hl with | [_, _], _ => rfl) (ok__law_renamed_wishes c F)
theorem sc__law_master_wishes : FnScope N__law_master_wishes ["dice", "n", "m"] (defScope (top 29)) := ⟨rfl, rfl, rfl, by decide +kernel, rfl, by decide +kernel, by decide +kernel⟩
theorem ok__law_master_wishes (c : Fx K mg) {f : Addr} {fd : FuncData} (F : FunD K "_law_master_wishes" "_law_master_wishes" (defArgs (top 29)) (defBody (top 29)) (defScope (top 29)) [] [] f fd) : FnG P w K mg base (CX P w) 3 f fd ["dice", "n", "m"] (spOf K 3 F__law_master_wishes) :=
  def_ok (C := C__law_master_wishes) (m := 7) (trs_ok rules_ok 40) stmts_ok (world_of (all_cons ⟨kn__law_mixed c, by decide⟩ (all_cons ⟨kn__law_roll c, by decide⟩ all_nil)) (hV c) (hB c)) F sc__law_master_wishes rfl rfl rfl tr__law_master_wishes
theorem kn__law_master_wishes (c : Fx K mg) : Knows P w K mg base "_law_master_wishes" I__law_master_wishes := by
  obtain ⟨h, X, G, s⟩ := c.ex
  obtain ⟨fd, F⟩ := s.def_ 21 (d := d__law_master_wishes) rfl
  exact def_knows (ps := ["dice", "n", "m"]) F (He.glo_ok X G (s.fact 21 (f := .glo "_law_master_wishes") rfl)) (FunD.bindsN F fun _ _ _ _ _ _ us hl => match us, hl with | [_, _, _], _ => rfl) (ok__law_master_wishes c F)
theorem sc__law_bent : FnScope N__law_bent ["dice", "wishes"] (defScope (top 33)) := ⟨rfl, rfl, rfl, by decide +kernel, rfl, by decide +kernel, by decide +kernel⟩
theorem ok__law_bent (c : Fx K mg) {f : Addr} {fd : FuncData} (F : FunD K "_law_bent" "_law_bent" (defArgs (top 33)) (defBody (top 33)) (defScope (top 33)) [] [] f fd) : FnG P w K mg base (CX P w) 3 f fd ["dice", "wishes"] (spOf K 2 F__law_bent) :=
  def_ok (C := C__law_bent) (m := 7) (trs_ok rules_ok 40) stmts_ok (world_of (all_cons ⟨kn__law_pick c, by decide⟩ (all_cons ⟨kn__law_roll c, by decide⟩ all_nil)) (hV c) (hB c)) F sc__law_bent rfl rfl rfl tr__law_bent
theorem kn__law_bent (c : Fx K mg) : Knows P w K mg base "_law_bent" I__law_bent := by
  obtain ⟨h, X, G, s⟩ := c.ex
  obtain ⟨fd, F⟩ := s.def_ 25 (d := d__law_bent) rfl
  exact def_knows (ps := ["dice", "wishes"]) F (He.glo_ok X G (s.fact 25 (f := .glo "_law_bent") rfl)) (FunD.bindsN F fun _ _ _ _ _ _ us hl => match us, hl with | [_, _], _ => rfl) (ok__law_bent c F)
theorem sc_is_side_of_lists : FnScope N_is_side_of_lists ["value", "most"] (defScope (top 10)) := ⟨rfl, rfl, rfl, by decide +kernel, rfl, by decide +kernel, by decide +kernel⟩
theorem ok_is_side_of_lists (c : Fx K mg) {f : Addr} {fd : FuncData} (F : FunD K "is_side_of_lists" "is_side_of_lists" (defArgs (top 10)) (defBody (top 10)) (defScope (top 10)) [] [] f fd) : FnG P w K mg base (CX P w) 4 f fd ["value", "most"] (spOf K 2 F_is_side_of_lists) :=
  def_ok (C := C_is_side_of_lists) (m := 1) (trs_ok rules_ok 40) stmts_ok (world_of (all_cons ⟨kn_is_list_of c, by decide⟩ all_nil) (hV c) (hB c)) F sc_is_side_of_lists rfl rfl rfl tr_is_side_of_lists
theorem kn_is_side_of_lists (c : Fx K mg) : Knows P w K mg base "is_side_of_lists" I_is_side_of_lists := by
  obtain ⟨h, X, G, s⟩ := c.ex
  obtain ⟨fd, F⟩ := s.def_ 3 (d := d_is_side_of_lists) rfl
  exact def_knows (ps := ["value", "most"]) F (He.glo_ok X G (s.fact 3 (f := .glo "is_side_of_lists") rfl)) (FunD.bindsN F fun _ _ _ _ _ _ us hl => match us, hl with | [_, _], _ => rfl) (ok_is_side_of_lists c F)
theorem sc__law_whole_wishes : FnScope N__law_whole_wishes ["dice", "n"] (defScope (top 24)) := ⟨rfl, rfl, rfl, by decide +kernel, rfl, by decide +kernel, by decide +kernel⟩
theorem ok__law_whole_wishes (c : Fx K mg) {f : Addr} {fd : FuncData} (F : FunD K "_law_whole_wishes" "_law_whole_wishes" (defArgs (top 24)) (defBody (top 24)) (defScope (top 24)) [] [] f fd) : FnG P w K mg base (CX P w) 4 f fd ["dice", "n"] (spOf K 2 F__law_whole_wishes) :=
  def_ok (C := C__law_whole_wishes) (m := 0) (trs_ok rules_ok 40) stmts_ok (world_of (all_cons ⟨kn__law_grid c, by decide⟩ (all_cons ⟨kn__law_wishes_of c, by decide⟩ all_nil)) (hV c) (hB c)) F sc__law_whole_wishes rfl rfl rfl tr__law_whole_wishes
theorem kn__law_whole_wishes (c : Fx K mg) : Knows P w K mg base "_law_whole_wishes" I__law_whole_wishes := by
  obtain ⟨h, X, G, s⟩ := c.ex
  obtain ⟨fd, F⟩ := s.def_ 16 (d := d__law_whole_wishes) rfl
  exact def_knows (ps := ["dice", "n"]) F (He.glo_ok X G (s.fact 16 (f := .glo "_law_whole_wishes") rfl)) (FunD.bindsN F fun _ _ _ _ _ _ us hl => match us, hl with | [_, _], _ => rfl) (ok__law_whole_wishes c F)
theorem sc__law_cut_wishes : FnScope N__law_cut_wishes ["dice", "n", "m"] (defScope (top 25)) := ⟨rfl, rfl, rfl, by decide +kernel, rfl, by decide +kernel, by decide +kernel⟩
theorem ok__law_cut_wishes (c : Fx K mg) {f : Addr} {fd : FuncData} (F : FunD K "_law_cut_wishes" "_law_cut_wishes" (defArgs (top 25)) (defBody (top 25)) (defScope (top 25)) [] [] f fd) : FnG P w K mg base (CX P w) 4 f fd ["dice", "n", "m"] (spOf K 3 F__law_cut_wishes) :=
  def_ok (C := C__law_cut_wishes) (m := 3) (trs_ok rules_ok 40) stmts_ok (world_of (all_cons ⟨kn__law_grid c, by decide⟩ (all_cons ⟨kn__law_pick c, by decide⟩ (all_cons ⟨kn__law_roll c, by decide⟩ (all_cons ⟨kn__law_wishes_of c, by decide⟩ all_nil)))) (hV c) (hB c)) F sc__law_cut_wishes rfl rfl rfl tr__law_cut_wishes
theorem kn__law_cut_wishes (c : Fx K mg) : Knows P w K mg base "_law_cut_wishes" I__law_cut_wishes := by
  obtain ⟨h, X, G, s⟩ := c.ex
  obtain ⟨fd, F⟩ := s.def_ 17 (d := d__law_cut_wishes) rfl
  exact def_knows (ps := ["dice", "n", "m"]) F (He.glo_ok X G (s.fact 17 (f := .glo "_law_cut_wishes") rfl)) (FunD.bindsN F fun _ _ _ _ _ _ us hl => match us, hl with | [_, _, _], _ => rfl) (ok__law_cut_wishes c F)
theorem sc_has_form : FnScope N_has_form ["value"] (defScope (top 12)) := ⟨rfl, rfl, rfl, by decide +kernel, rfl, by decide +kernel, by decide +kernel⟩
theorem ok_has_form (c : Fx K mg) {f : Addr} {fd : FuncData} (F : FunD K "has_form" "has_form" (defArgs (top 12)) (defBody (top 12)) (defScope (top 12)) [] [] f fd) : FnG P w K mg base (CX P w) 5 f fd ["value"] (spOf K 1 F_has_form) :=
  def_ok (C := C_has_form) (m := 0) (trs_ok rules_ok 40) stmts_ok (world_of (all_cons ⟨kn_is_pair c, by decide⟩ (all_cons ⟨kn_is_side_of_lists c, by decide⟩ all_nil)) (hV c) (hB c)) F sc_has_form rfl rfl rfl tr_has_form
theorem kn_has_form (c : Fx K mg) : Knows P w K mg base "has_form" I_has_form := by
  obtain ⟨h, X, G, s⟩ := c.ex
  obtain ⟨fd, F⟩ := s.def_ 5 (d := d_has_form) rfl
  exact def_knows (ps := ["value"]) F (He.glo_ok X G (s.fact 5 (f := .glo "has_form") rfl)) (FunD.bindsN F fun _ _ _ _ _ _ us hl => match us, hl with | [_], _ => rfl) (ok_has_form c F)
theorem sc__law_drawn_wishes : FnScope N__law_drawn_wishes ["dice", "most"] (defScope (top 30)) := ⟨rfl, rfl, rfl, by decide +kernel, rfl, by decide +kernel, by decide +kernel⟩
theorem ok__law_drawn_wishes (c : Fx K mg) {f : Addr} {fd : FuncData} (F : FunD K "_law_drawn_wishes" "_law_drawn_wishes" (defArgs (top 30)) (defBody (top 30)) (defScope (top 30)) [] [] f fd) : FnG P w K mg base (CX P w) 5 f fd ["dice", "most"] (spOf K 2 F__law_drawn_wishes) :=
  def_ok (C := C__law_drawn_wishes) (m := 5) (trs_ok rules_ok 40) stmts_ok (world_of (all_cons ⟨kn__law_beside c, by decide⟩ (all_cons ⟨kn__law_cut_wishes c, by decide⟩ (all_cons ⟨kn__law_master_wishes c, by decide⟩ (all_cons ⟨kn__law_renamed_wishes c, by decide⟩ (all_cons ⟨kn__law_ring_wishes c, by decide⟩ (all_cons ⟨kn__law_roll c, by decide⟩ (all_cons ⟨kn__law_whole_wishes c, by decide⟩ all_nil))))))) (hV c) (hB c)) F sc__law_drawn_wishes rfl rfl rfl tr__law_drawn_wishes
theorem kn__law_drawn_wishes (c : Fx K mg) : Knows P w K mg base "_law_drawn_wishes" I__law_drawn_wishes := by
  obtain ⟨h, X, G, s⟩ := c.ex
  obtain ⟨fd, F⟩ := s.def_ 22 (d := d__law_drawn_wishes) rfl
  exact def_knows (ps := ["dice", "most"]) F (He.glo_ok X G (s.fact 22 (f := .glo "_law_drawn_wishes") rfl)) (FunD.bindsN F fun _ _ _ _ _ _ us hl => match us, hl with | [_, _], _ => rfl) (ok__law_drawn_wishes c F)
theorem sc_fault_in : FnScope N_fault_in ["value"] (defScope (top 13)) := ⟨rfl, rfl, rfl, by decide +kernel, rfl, by decide +kernel, by decide +kernel⟩
theorem ok_fault_in (c : Fx K mg) {f : Addr} {fd : FuncData} (F : FunD K "fault_in" "fault_in" (defArgs (top 13)) (defBody (top 13)) (defScope (top 13)) [] [] f fd) : FnG P w K mg base (CX P w) 6 f fd ["value"] (spOf K 1 F_fault_in) :=
  def_ok (C := C_fault_in) (m := 6) (trs_ok rules_ok 40) stmts_ok (world_of (all_cons ⟨kn_has_form c, by decide⟩ all_nil) (hV c) (hB c)) F sc_fault_in rfl rfl rfl tr_fault_in
theorem kn_fault_in (c : Fx K mg) : Knows P w K mg base "fault_in" I_fault_in := by
  obtain ⟨h, X, G, s⟩ := c.ex
  obtain ⟨fd, F⟩ := s.def_ 6 (d := d_fault_in) rfl
  exact def_knows (ps := ["value"]) F (He.glo_ok X G (s.fact 6 (f := .glo "fault_in") rfl)) (FunD.bindsN F fun _ _ _ _ _ _ us hl => match us, hl with | [_], _ => rfl) (ok_fault_in c F)
theorem sc_is_wishes_in : FnScope N_is_wishes_in ["value"] (defScope (top 14)) := ⟨rfl, rfl, rfl, by decide +kernel, rfl, by decide +kernel, by decide +kernel⟩
theorem ok_is_wishes_in (c : Fx K mg) {f : Addr} {fd : FuncData} (F : FunD K "is_wishes_in" "is_wishes_in" (defArgs (top 14)) (defBody (top 14)) (defScope (top 14)) [] [] f fd) : FnG P w K mg base (CX P w) 7 f fd ["value"] (spOf K 1 F_is_wishes_in) :=
  def_ok (C := C_is_wishes_in) (m := 0) (trs_ok rules_ok 40) stmts_ok (world_of (all_cons ⟨kn_fault_in c, by decide⟩ all_nil) (hV c) (hB c)) F sc_is_wishes_in rfl rfl rfl tr_is_wishes_in
theorem kn_is_wishes_in (c : Fx K mg) : Knows P w K mg base "is_wishes_in" I_is_wishes_in := by
  obtain ⟨h, X, G, s⟩ := c.ex
  obtain ⟨fd, F⟩ := s.def_ 7 (d := d_is_wishes_in) rfl
  exact def_knows (ps := ["value"]) F (He.glo_ok X G (s.fact 7 (f := .glo "is_wishes_in") rfl)) (FunD.bindsN F fun _ _ _ _ _ _ us hl => match us, hl with | [_], _ => rfl) (ok_is_wishes_in c F)
theorem sc_fault_of : FnScope N_fault_of ["value"] (defScope (top 16)) := ⟨rfl, rfl, rfl, by decide +kernel, rfl, by decide +kernel, by decide +kernel⟩
theorem ok_fault_of (c : Fx K mg) {f : Addr} {fd : FuncData} (F : FunD K "fault_of" "fault_of" (defArgs (top 16)) (defBody (top 16)) (defScope (top 16)) [] [] f fd) : FnG P w K mg base (CX P w) 7 f fd ["value"] (spOf K 1 F_fault_of) :=
  def_ok (C := C_fault_of) (m := 0) (trs_ok rules_ok 40) stmts_ok (world_of (all_cons ⟨kn_fault_in c, by decide⟩ all_nil) (hV c) (hB c)) F sc_fault_of rfl rfl rfl tr_fault_of
theorem kn_fault_of (c : Fx K mg) : Knows P w K mg base "fault_of" I_fault_of := by
  obtain ⟨h, X, G, s⟩ := c.ex
  obtain ⟨fd, F⟩ := s.def_ 9 (d := d_fault_of) rfl
  exact def_knows (ps := ["value"]) F (He.glo_ok X G (s.fact 9 (f := .glo "fault_of") rfl)) (FunD.bindsN F fun _ _ _ _ _ _ us hl => match us, hl with | [_], _ => rfl) (ok_fault_of c F)
theorem sc_is_wishes : FnScope N_is_wishes ["value"] (defScope (top 15)) := ⟨rfl, rfl, rfl, by decide +kernel, rfl, by decide +kernel, by decide +kernel⟩
theorem ok_is_wishes (c : Fx K mg) {f : Addr} {fd : FuncData} (F : FunD K "is_wishes" "is_wishes" (defArgs (top 15)) (defBody (top 15)) (defScope (top 15)) [] [] f fd) : FnG P w K mg base (CX P w) 8 f fd ["value"] (spOf K 1 F_is_wishes) :=
  def_ok (C := C_is_wishes) (m := 0) (trs_ok rules_ok 40) stmts_ok (world_of (all_cons ⟨kn_is_wishes_in c, by decide⟩ all_nil) (hV c) (hB c)) F sc_is_wishes rfl rfl rfl tr_is_wishes
theorem kn_is_wishes (c : Fx K mg) : Knows P w K mg base "is_wishes" I_is_wishes := by
  obtain ⟨h, X, G, s⟩ := c.ex
  obtain ⟨fd, F⟩ := s.def_ 8 (d := d_is_wishes) rfl
  exact def_knows (ps := ["value"]) F (He.glo_ok X G (s.fact 8 (f := .glo "is_wishes") rfl)) (FunD.bindsN F fun _ _ _ _ _ _ us hl => match us, hl with | [_], _ => rfl) (ok_is_wishes c F)
theorem sc__law_right : FnScope N__law_right ["dice"] (defScope (top 34)) := ⟨rfl, rfl, rfl, by decide +kernel, rfl, by decide +kernel, by decide +kernel⟩
theorem ok__law_right (c : Fx K mg) {f : Addr} {fd : FuncData} (F : FunD K "_law_right" "_law_right" (defArgs (top 34)) (defBody (top 34)) (defScope (top 34)) [] [] f fd) : FnG P w K mg base (CX P w) 9 f fd ["dice"] (spOf K 1 F__law_right) :=
  def_ok (C := C__law_right) (m := 7) (trs_ok rules_ok 40) stmts_ok (world_of (all_cons ⟨kn__law_bent c, by decide⟩ (all_cons ⟨kn__law_drawn_wishes c, by decide⟩ (all_cons ⟨kn__law_fault c, by decide⟩ (all_cons ⟨kn__law_pick c, by decide⟩ (all_cons ⟨kn_fault_of c, by decide⟩ (all_cons ⟨kn_is_wishes c, by decide⟩ all_nil)))))) (hV c) (hB c)) F sc__law_right rfl rfl rfl tr__law_right
theorem kn__law_right (c : Fx K mg) : Knows P w K mg base "_law_right" I__law_right := by
  obtain ⟨h, X, G, s⟩ := c.ex
  obtain ⟨fd, F⟩ := s.def_ 26 (d := d__law_right) rfl
  exact def_knows (ps := ["dice"]) F (He.glo_ok X G (s.fact 26 (f := .glo "_law_right") rfl)) (FunD.bindsN F fun _ _ _ _ _ _ us hl => match us, hl with | [_], _ => rfl) (ok__law_right c F)
theorem sc_law : FnScope N_law ["script"] (defScope (top 35)) := ⟨rfl, rfl, rfl, by decide +kernel, rfl, by decide +kernel, by decide +kernel⟩
theorem ok_law (c : Fx K mg) {f : Addr} {fd : FuncData} (F : FunD K "law" "law" (defArgs (top 35)) (defBody (top 35)) (defScope (top 35)) [] [] f fd) : FnG P w K mg base (CX P w) 10 f fd ["script"] (spOf K 1 F_law) :=
  def_ok (C := C_law) (m := 7) (trs_ok rules_ok 40) stmts_ok (world_of (all_cons ⟨kn__law_dice c, by decide⟩ (all_cons ⟨kn__law_right c, by decide⟩ (all_cons ⟨kn_fault_of c, by decide⟩ (all_cons ⟨kn_is_wishes c, by decide⟩ all_nil)))) (hV c) (hB c)) F sc_law rfl rfl rfl tr_law
theorem kn_law (c : Fx K mg) : Knows P w K mg base "law" I_law := by
  obtain ⟨h, X, G, s⟩ := c.ex
  obtain ⟨fd, F⟩ := s.def_ 27 (d := d_law) rfl
  exact def_knows (ps := ["script"]) F (He.glo_ok X G (s.fact 27 (f := .glo "law") rfl)) (FunD.bindsN F fun _ _ _ _ _ _ us hl => match us, hl with | [_], _ => rfl) (ok_law c F)
end
theorem facts {P : Program} {w : World} {K : PySem.W.Frag} {h : Heap} {mg : Str → Option Value} {f : Addr} (X : K.In h) (G : h.Ns mainGlobals mg) (hfa : mg ("law" : Str) = some (.ref f)) (c : He.SaysD fa fn K) :
    ∃ fd : FuncData, (∀ (s : Shared) (v : Value), BindsTo s fd ⟨[v], []⟩ [("script", v)]) ∧ ∀ base : Heap, K.In base → base.Ns mainGlobals mg → FnG P w K mg base (CX P w) 10 f fd ["script"] (spOf K 1 F_law) := by
  obtain ⟨fd, F⟩ := c.def_ 27 (d := d_law) rfl
  have e := hfa.symm.trans (He.glo_ok X G (c.fact 27 (f := .glo "law") rfl))
  cases e
  have b := FunD.bindsA (ps := ["script"]) F fun _ _ _ _ _ _ us hl => match us, hl with | [_], _ => rfl
  exact ⟨fd, fun s v => b s [v] rfl, fun base _ _ => ok_law ⟨h, X, G, c⟩ F⟩
end Law
open PySem PySem.W PySem.Calls PyProof.Rows
theorem law_of_plain (plain : ∀ ns : List Int, ns.length ≤ 63 → ∃ st', Law.F_law [Ev.scriptD ns] [] = .ok (.bl true) st') : PySem.Challenge.rw_staypairs_k01_whole_wishes_judged.Holds := by
  w_on; o_law
  refine HandSHeadRun.head_any (r := OpenLaw.row PySem.Challenge.rw_staypairs_k01_whole_wishes_judged) (q := view (OpenLaw.row PySem.Challenge.rw_staypairs_k01_whole_wishes_judged).prog [35]) (H := Law.hk) (ob := Law.ob) (M := 2000) (loose := Law.loose) (d := HandSHeadRun.topDef (OpenLaw.row PySem.Challenge.rw_staypairs_k01_whole_wishes_judged).prog 35) (kwd := []) Law.ob_eq
    (by kernel_rfl) (fun s => by kernel_rfl) Law.run (by kernel_rfl) (by kernel_rfl) (by kernel_rfl) (by rfl) (by first | assumption | decide +kernel) (by decide +kernel) ⟨rfl, rfl, rfl, rfl, rfl, by decide +kernel⟩ ?hw ?hc
  case hw => w_witness2
  case hc =>
    refine Ev.walkG (l := PySem.Challenge.rw_staypairs_k01_whole_wishes_judged) (n := 63) (k := 10) (x := "script") (CX := L2.CX (PySem.Challenge.rw_staypairs_k01_whole_wishes_judged).prog) rfl (by decide) (by kernel_rfl) ⟨rfl, by decide, by decide⟩ ?F Ev.no_exc
    intro w mg fa h Y G hmg0
    obtain ⟨K, KX, c⟩ := Y
    have hmg : mg ("law" : PySem.Str) = some (.ref fa) := by
      have e : (HandSHeadRun.topDef (OpenLaw.row PySem.Challenge.rw_staypairs_k01_whole_wishes_judged).prog 35).name = ("law" : PySem.Str) := by kernel_rfl
      rw [← e]
      exact hmg0
    obtain ⟨fd, hb, hF⟩ := Law.facts (P := (PySem.Challenge.rw_staypairs_k01_whole_wishes_judged).prog) (w := w) KX G hmg c
    exact ⟨K, fd, Ev.spOf K 1 Law.F_law, KX, hb, fun H a ns hl hO hS => Ev.law_sp plain hl hO hS, hF⟩
theorem PySem.Challenge.cw_staypairs_k01_whole_wishes_judged_holds : PySem.Challenge.rw_staypairs_k01_whole_wishes_judged.Holds :=
  law_of_plain Law.law_plain
