import PyProof.Rows.All
import Wide.All
import OpenK.AllK
import Wide.FinOn
import KE.KStateDown
import Lean
import HandS.Base
import HandS.Call
import HandS.Ends
import HandS.More
import HandS.Words
import HandS.WordsExc
import HandS.Defaults
import HandS.Head0
import HandS.Head1
import HandS.Head2
import HandS.HeadEnd
import HandS.HeadHook1
import HandS.HeadHook2
import HandS.ForMost
import KE.SortData
import HandS.TupAny
import HandS.Deep
import HandS.IsInst
import HandS.TupLe
import HandS.TupLen
import KE.DataMinMax
import PyProof.Transfer
import KE.KTupSum
import KE.KDictCopyH
import KE.KDictSum
import HandS.TupMul
import HandS.Text
import HandS.List
import HandS.Dict
import HandS.DictTup
import KE.KDictPairs
import HandS.Small
import HandS.Style
import KE.KDictDisplayH
import HandS.SetFor
import HandS.Strs
import HandS.Conv
import PyProof.AutoSeq1
import HandS.TupSets
import HandS.Codes
import PySem.Challenge.RW_changewarrant_k33_tables_parted
set_option Elab.async false
set_option linter.all false
/-! Ev: a small evaluator of Python's text over plain data, and what it rests on (the soundness stands in Ev2). -/
namespace Ev
open PySem

/-- a value: immutable data as it is, a changing object by its place in the memory -/
inductive D where
  | non | bl (b : Bool) | int (i : Int) | str (x : Str) | tup (ds : List D) | fz (ds : List D) | ref (n : Nat) | xt (ds : List D)
mutual
def D.dec : (a b : D) → Decidable (a = b)
  | .non, .non => Decidable.isTrue rfl
  | .bl a, .bl b => if h : a = b then Decidable.isTrue (by rw [h]) else Decidable.isFalse (fun e => h (D.bl.inj e))
  | .int a, .int b => if h : a = b then Decidable.isTrue (by rw [h]) else Decidable.isFalse (fun e => h (D.int.inj e))
  | .str a, .str b => if h : a = b then Decidable.isTrue (by rw [h]) else Decidable.isFalse (fun e => h (D.str.inj e))
  | .ref a, .ref b => if h : a = b then Decidable.isTrue (by rw [h]) else Decidable.isFalse (fun e => h (D.ref.inj e))
  | .tup a, .tup b => match D.decs a b with
    | Decidable.isTrue h => Decidable.isTrue (by rw [h])
    | Decidable.isFalse h => Decidable.isFalse (fun e => h (D.tup.inj e))
  | .fz a, .fz b => match D.decs a b with
    | Decidable.isTrue h => Decidable.isTrue (by rw [h])
    | Decidable.isFalse h => Decidable.isFalse (fun e => h (D.fz.inj e))
  | .xt a, .xt b => match D.decs a b with
    | Decidable.isTrue h => Decidable.isTrue (by rw [h])
    | Decidable.isFalse h => Decidable.isFalse (fun e => h (D.xt.inj e))
  | .non, .xt _ | .bl _, .xt _ | .int _, .xt _ | .str _, .xt _ | .tup _, .xt _ | .fz _, .xt _ | .ref _, .xt _ => Decidable.isFalse (fun e => nomatch e)
  | .xt _, .non | .xt _, .bl _ | .xt _, .int _ | .xt _, .str _ | .xt _, .tup _ | .xt _, .fz _ | .xt _, .ref _ => Decidable.isFalse (fun e => nomatch e)
  | .non, .bl _ | .non, .int _ | .non, .str _ | .non, .tup _ | .non, .fz _ | .non, .ref _ => Decidable.isFalse (fun e => nomatch e)
  | .bl _, .non | .bl _, .int _ | .bl _, .str _ | .bl _, .tup _ | .bl _, .fz _ | .bl _, .ref _ => Decidable.isFalse (fun e => nomatch e)
  | .int _, .non | .int _, .bl _ | .int _, .str _ | .int _, .tup _ | .int _, .fz _ | .int _, .ref _ => Decidable.isFalse (fun e => nomatch e)
  | .str _, .non | .str _, .bl _ | .str _, .int _ | .str _, .tup _ | .str _, .fz _ | .str _, .ref _ => Decidable.isFalse (fun e => nomatch e)
  | .tup _, .non | .tup _, .bl _ | .tup _, .int _ | .tup _, .str _ | .tup _, .fz _ | .tup _, .ref _ => Decidable.isFalse (fun e => nomatch e)
  | .fz _, .non | .fz _, .bl _ | .fz _, .int _ | .fz _, .str _ | .fz _, .tup _ | .fz _, .ref _ => Decidable.isFalse (fun e => nomatch e)
  | .ref _, .non | .ref _, .bl _ | .ref _, .int _ | .ref _, .str _ | .ref _, .tup _ | .ref _, .fz _ => Decidable.isFalse (fun e => nomatch e)
def D.decs : (a b : List D) → Decidable (a = b)
  | [], [] => Decidable.isTrue rfl
  | [], _ :: _ => Decidable.isFalse (fun e => nomatch e)
  | _ :: _, [] => Decidable.isFalse (fun e => nomatch e)
  | a :: as, b :: bs => match D.dec a b, D.decs as bs with
    | Decidable.isTrue h, Decidable.isTrue h' => Decidable.isTrue (by rw [h, h'])
    | Decidable.isFalse h, _ => Decidable.isFalse (fun e => h (List.cons.inj e).1)
    | _, Decidable.isFalse h => Decidable.isFalse (fun e => h (List.cons.inj e).2)
end
instance : DecidableEq D := D.dec

mutual
/-- as the model's own data -/
def D.py : D → PyData
  | .non => .none
  | .bl b => .bool b
  | .int i => .int i
  | .str x => .str x
  | .tup ds => .tuple (D.pys ds)
  | .fz ds => .list (D.pys ds)
  | .xt ds => .tuple (D.pys ds)
  | .ref _ => .none
def D.pys : List D → List PyData
  | [] => []
  | d :: ds => d.py :: D.pys ds
end
mutual
/-- no changing object within -/
def D.pure : D → Bool
  | .ref _ => false
  | .tup ds => D.pures ds
  | .fz ds => D.pures ds
  | .xt ds => D.pures ds
  | _ => true
def D.pures : List D → Bool
  | [] => true
  | d :: ds => d.pure && D.pures ds
end
mutual
/-- all places within stand below n -/
def D.lo (n : Nat) : D → Bool
  | .ref m => decide (m < n)
  | .tup ds => D.los n ds
  | .fz ds => D.los n ds
  | .xt ds => D.los n ds
  | _ => true
def D.los (n : Nat) : List D → Bool
  | [] => true
  | d :: ds => d.lo n && D.los n ds
end

/-- a changing object: t of a dict, a set: its keys are tuples -/
inductive MO where
  | lst (ds : List D) | dic (t : Bool) (kvs : List (D × D)) | ins (C : Nat) (fs : List (Nat × D)) | set (t : Bool) (ks : List D)
  deriving DecidableEq
abbrev Mem := List MO
abbrev Env := List (Option D)
def MO.lo (n : Nat) : MO → Bool
  | .lst ds => D.los n ds
  | .dic _ kvs => kvs.all fun p => p.2.lo n
  | .ins _ fs => fs.all fun p => p.2.lo n
  | .set _ _ => true

/-- what the text's names are: attributes and methods, classes; which attributes a class's things have; which def a class's method is; a class's __init__ -/
class Tab where
  nm : List Str
  nd : nm.Nodup
  cn : List Str
  fl : List (Nat × Nat)
  mt : List ((Nat × Nat) × Nat)
  ini : List (Nat × Nat)
/-- what an expression comes to: a value, or a new list that nothing else holds -/
inductive A where
  | v (d : D) | l (ds : List D)

def bnd {α β : Type} (x : Option (α × Mem)) (f : α → Mem → Option β) : Option β := match x with
  | some p => f p.1 p.2
  | none => none
@[simp] theorem bnd_some {α β : Type} (a : α) (M : Mem) (f : α → Mem → Option β) : bnd (some (a, M)) f = f a M := (rfl)
@[simp] theorem bnd_none {α β : Type} (f : α → Mem → Option β) : bnd none f = none := (rfl)
theorem bnd_eq {α β : Type} {x : Option (α × Mem)} {f : α → Mem → Option β} {y : β} (h : bnd x f = some y) : ∃ a M, x = some (a, M) ∧ f a M = some y := by
  cases x with
  | none => cases h
  | some p => exact ⟨p.1, p.2, rfl, h⟩

/-! ### operators, built-ins -/
inductive Op2 where
  | add | sub | mul | fdiv | mod | pow | eq | ne | lt | le | gt | ge | isin | notin | is | isnot
  deriving DecidableEq

/-- the items of a sequence -/
def itemsOf (M : Mem) : A → Option (List D)
  | .l ds => some ds
  | .v (.tup ds) => some ds
  | .v (.fz ds) => some ds
  | .v (.xt ds) => some ds
  | .v (.ref n) => match M[n]? with
    | some (.lst ds) => some ds
    | _ => none
  | _ => none
/-- the items of a list -/
def listOf (M : Mem) : A → Option (List D)
  | .v (.tup _) => none
  | .v (.xt _) => none
  | a => itemsOf M a
/-- .. of a list that is not locked -/
def wlistOf (M : Mem) : A → Option (List D)
  | .l ds => some ds
  | .v (.ref n) => match M[n]? with
    | some (.lst ds) => some ds
    | _ => none
  | _ => none
def pyOf (M : Mem) : A → Option PyData
  | .l ds => if D.pures ds then some (.list (D.pys ds)) else none
  | .v (.ref n) => match M[n]? with
    | some (.lst ds) => if D.pures ds then some (.list (D.pys ds)) else none
    | _ => none
  | .v d => if d.pure then some d.py else none
def isKeyK : D → Bool
  | .int _ => true
  | .str _ => true
  | _ => false
def isKey (t : Bool) (d : D) : Bool := if t then (match d with | .tup ds => ds.all isKeyK | _ => false) else isKeyK d
def dget (kvs : List (D × D)) (k : D) : Option D := (kvs.find? fun kv => decide (kv.1 = k)).map (·.2)
def dput (kvs : List (D × D)) (k v : D) : List (D × D) :=
  if (kvs.any fun kv => decide (kv.1 = k)) = true then kvs.map (fun kv => if kv.1 = k then (kv.1, v) else kv) else kvs ++ [(k, v)]
def ddrop (kvs : List (D × D)) (k : D) : List (D × D) := kvs.filter fun kv => decide (kv.1 ≠ k)

def line : Nat := 16000000
def mulOk (i j : Int) : Bool := (decide (-(2 ^ 64) < i) && decide (i < 2 ^ 64)) || (decide (-(2 ^ 64) < j) && decide (j < 2 ^ 64))
/-- whether a list of anything is an empty one -/
def emp (M : Mem) (a b : A) : Option Bool := match b with
  | .l [] => (match a with
    | .l ds => some ds.isEmpty
    | .v (.ref n) => (match M[n]? with
      | some (.lst ds) => some ds.isEmpty
      | _ => none)
    | _ => none)
  | _ => none
def eqA (M : Mem) (a b : A) : Option Bool := match pyOf M a, pyOf M b with
  | some x, some y => if SeqAt.shaped x && SeqAt.shaped y then some (PyData.eqv x y) else none
  | _, _ => emp M a b
def inA (M : Mem) (a b : A) : Option Bool := match b with
  | .v (.ref n) => match M[n]? with
    | some (.lst ds) => match pyOf M a with
      | some x => if D.pures ds && SeqAt.shaped x && SeqAt.shaped (.list (D.pys ds)) then some ((D.pys ds).any fun z => PyData.eqv z x) else none
      | none => none
    | some (.dic t kvs) => match a with
      | .v k => if isKey t k then some (dget kvs k).isSome else none
      | _ => none
    | some (.set t ks) => match a with
      | .v k => if isKey t k then some (decide (k ∈ ks)) else none
      | _ => none
    | _ => none
  | .v (.str y) => match a with
    | .v (.str x) => match x.cps.toList with
      | [c] => some (decide (c ∈ y.cps.toList))
      | _ => none
    | _ => none
  | _ => match itemsOf M b, pyOf M a with
    | some ds, some x => if D.pures ds && SeqAt.shaped x && SeqAt.shaped (.list (D.pys ds)) then some ((D.pys ds).any fun z => PyData.eqv z x) else none
    | _, _ => none
def op2 (o : Op2) (a b : A) (M : Mem) : Option (A × Mem) := match o with
  | .eq => (eqA M a b).map fun c => (.v (.bl c), M)
  | .ne => (eqA M a b).map fun c => (.v (.bl (!c)), M)
  | .isin => (inA M a b).map fun c => (.v (.bl c), M)
  | .notin => (inA M a b).map fun c => (.v (.bl (!c)), M)
  | .is => match a, b with
    | .v x, .v .non => some (.v (.bl (decide (x = .non))), M)
    | .v (.bl x), .v (.bl y) => some (.v (.bl (decide (x = y))), M)
    | _, _ => none
  | .isnot => match a, b with
    | .v x, .v .non => some (.v (.bl (!decide (x = .non))), M)
    | .v (.bl x), .v (.bl y) => some (.v (.bl (!decide (x = y))), M)
    | _, _ => none
  | .add => match a, b with
    | .v (.int i), .v (.int j) => some (.v (.int (i + j)), M)
    | .v (.tup x), .v (.tup y) => if x.length + y.length ≤ line then some (.v (.tup (x ++ y)), M) else none
    | .v (.str x), .v (.str y) => if x.length + y.length ≤ line then some (.v (.str (x ++ y)), M) else none
    | a, b => match wlistOf M a, wlistOf M b with
      | some x, some y => if x.length + y.length ≤ line then some (.l (x ++ y), M) else none
      | _, _ => none
  | .sub => match a, b with
    | .v (.int i), .v (.int j) => some (.v (.int (i - j)), M)
    | _, _ => none
  | .mul => match a, b with
    | .v (.int i), .v (.int j) => if mulOk i j then some (.v (.int (i * j)), M) else none
    | .v (.tup [x]), .v (.int k) => if 0 ≤ k ∧ k ≤ 1000 then some (.v (.tup (List.replicate k.toNat x)), M) else none
    | .l xs, .v (.int k) => if 0 ≤ k ∧ k ≤ 1000000 ∧ xs.length * k.toNat ≤ line then some (.l (List.replicate k.toNat xs).flatten, M) else none
    | _, _ => none
  | .fdiv => match a, b with
    | .v (.int i), .v (.int j) => if 0 < j ∧ j < 1073741824 then some (.v (.int (i / j)), M) else none
    | _, _ => none
  | .mod => match a, b with
    | .v (.int i), .v (.int j) => if 0 < j then some (.v (.int (i % j)), M) else none
    | _, _ => none
  | .pow => match a, b with
    | .v (.int i), .v (.int j) => if 0 ≤ j ∧ j ≤ 1000000 ∧ i.natAbs < 2 ^ 64 then some (.v (.int (i ^ j.toNat)), M) else none
    | _, _ => none
  | .lt => match a, b with
    | .v (.int i), .v (.int j) => some (.v (.bl (decide (i < j))), M)
    | _, _ => none
  | .le => match a, b with
    | .v (.int i), .v (.int j) => some (.v (.bl (decide (i ≤ j))), M)
    | _, _ => none
  | .gt => match a, b with
    | .v (.int i), .v (.int j) => some (.v (.bl (decide (j < i))), M)
    | _, _ => none
  | .ge => match a, b with
    | .v (.int i), .v (.int j) => some (.v (.bl (decide (j ≤ i))), M)
    | _, _ => none
end Ev
namespace Ev
open PySem PySem.W L2

/-! ### the text -/
inductive BI where
  | len | tuple | list | sorted | sum | all | any | abs | int | max | min | dict (t : Bool) | set (t : Bool) | xtup | dictK
  deriving DecidableEq
inductive BM where
  | append | get | pop | extend | remove | index | count | popAt
  deriving DecidableEq
/-- what isinstance asks for -/
inductive Ty where
  | int | bool | str | tuple | list
  deriving DecidableEq
inductive Tg where
  | nm (i : Nat) | tp (ts : List Tg)
mutual
inductive E where
  | var (i : Nat) | cst (d : D)
  | op (o : Op2) (a b : E) | chain (o p : Op2) (a b c : E)
  | neg (a : E) | not (a : E) | and (a b : E) | or (a b : E) | ite (c a b : E)
  | tup (es : Es) | lst (es : Es) | dic (t : Bool) (es : Es)
  | ix (a b : E) | sl (a lo hi : E) | rev (a : E)
  | call (f : Nat) (es : Es) | mk (C : Nat) (es : Es) | meth (o : E) (m : Option Nat) (b : Option BM) (es : Es) | bi (f : BI) (es : Es)
  | fld (o : E) (f : Nat) | isi (a : E) (t : Ty)
  | lc (e : E) (t : Tg) (it : It) (c : E) (own : List Nat)
inductive Es where
  | nil | cons (e : E) (es : Es)
inductive It where
  | ex (e : E) | rng (a b : E)
end
inductive TgS where
  | tg (t : Tg) | sub (o i : E) | fld (o : E) (f : Nat) | all (o : E)
mutual
inductive S where
  | expr (e : E) | ret (e : E) | pass | brk | cont
  | asg (t : TgS) (e : E) | par (is : List Nat) (es : Es) | aug (i : Nat) (o : Op2) (e : E) | augs (a b : E) (o : Op2) (e : E) | augf (a : E) (f : Nat) (o : Op2) (e : E)
  | ite (c : E) (a b : Ss) | while (c : E) (b : Ss) | for (t : Tg) (it : It) (b : Ss)
  | del (a b : E)
inductive Ss where
  | nil | cons (s : S) (ss : Ss)
end

/-! ### what the calls do (given) -/
section
variable [Tab]
structure Cf where
  call : Nat → List D → Mem → Option (D × Mem)
  init : Nat → List D → Mem → Option (D × Mem)

def toD : A → Mem → Option (D × Mem)
  | .v d, M => some (d, M)
  | .l ds, M => some (.ref M.length, M ++ [.lst ds])
def toB : A → Mem → Option (Bool × Mem)
  | .v (.bl b), M => some (b, M)
  | _, _ => none
def pyKeys (ds : List D) : Bool := D.pures ds
def alikes : List PyData → Bool
  | [] => true
  | d :: ds => ds.all (fun e => alike d e && alike e d) && alike d d && alikes ds
def isTupC : PyData → Bool
  | .tuple (_ :: _) => true
  | _ => false
def isFlat : PyData → Bool
  | .none => false
  | .tuple _ => false
  | _ => true
def sortOk (ds : List D) : Bool := D.pures ds && alikes (D.pys ds) && ((D.pys ds).all isTupC || (D.pys ds).all isFlat) && (D.pys ds).all fun x => decide (x.depth ≤ 60)
def sortD (ds : List D) : List D := ds.mergeSort (PySem.W.dataLe false D.py)
def intsOf : List D → Option (List Int)
  | [] => some []
  | .int i :: ds => (intsOf ds).map (i :: ·)
  | _ :: _ => none
def boolsOf : List D → Option (List Bool)
  | [] => some []
  | .bl b :: ds => (boolsOf ds).map (b :: ·)
  | _ :: _ => none
def lenOf (M : Mem) : A → Option Nat
  | .v (.str x) => if x.length ≤ line then some x.length else none
  | .v (.ref n) => match M[n]? with
    | some (.lst ds) => some ds.length
    | some (.dic _ kvs) => some kvs.length
    | _ => none
  | a => (itemsOf M a).map (·.length)
/-- what a walk draws: also a dict's keys -/
def drawsOf (M : Mem) : A → Option (List D)
  | .v (.ref n) => match M[n]? with
    | some (.lst ds) => some ds
    | some (.dic _ kvs) => some (kvs.map (·.1))
    | _ => none
  | .v (.tup ds) => some ds
  | .v (.xt ds) => some ds
  | a => listOf M a
def maxI : List Int → Option Int
  | [] => none
  | i :: is => some (is.foldl (fun a b => if b > a then b else a) i)
def minI : List Int → Option Int
  | [] => none
  | i :: is => some (is.foldl (fun a b => if b < a then b else a) i)
mutual
/-- no plain tuple within -/
def D.nox : D → Bool
  | .xt _ => false
  | .tup ds => D.noxs ds
  | .fz ds => D.noxs ds
  | _ => true
def D.noxs : List D → Bool
  | [] => true
  | d :: ds => d.nox && D.noxs ds
end
/-- the first of the least -/
def minDat : List D → Option D
  | [] => none
  | d :: ds => some (ds.foldl (fun a y => if PySem.W.dataLt y.py a.py = true then y else a) d)
def pairsOf (t : Bool) : List D → Option (List (D × D))
  | [] => some []
  | .tup [k, v] :: ds => if isKey t k then (pairsOf t ds).map ((k, v) :: ·) else none
  | _ :: _ => none
def dmerge (kvs more : List (D × D)) : List (D × D) := more.foldl (fun acc kv => dput acc kv.1 kv.2) kvs
/-- a built-in upon its arguments -/
def un1 (g : A → Mem → Option (A × Mem)) : List A → Mem → Option (A × Mem)
  | [a], M => g a M
  | _, _ => none
def un2 (g : A → A → Mem → Option (A × Mem)) : List A → Mem → Option (A × Mem)
  | [a, b], M => g a b M
  | _, _ => none
def biLen (a : A) (M : Mem) : Option (A × Mem) := (lenOf M a).map fun (n : Nat) => (A.v (D.int (n : Int)), M)
def biTuple (a : A) (M : Mem) : Option (A × Mem) := match a with
  | .v (.xt ds) => some (.v (.xt ds), M)
  | a => (itemsOf M a).map fun ds => (.v (.tup ds), M)
/-- a new tuple out of a list, known to be a plain one -/
def biXtup (a : A) (M : Mem) : Option (A × Mem) := (listOf M a).map fun ds => (.v (.xt ds), M)
/-- dict(x) of a plain tuple of pairs -/
def biDictX (a : A) (M : Mem) : Option (A × Mem) := match a with
  | .v (.xt ds) => match pairsOf true ds with
    | some kvs => some (.v (.ref M.length), M ++ [.dic true (dmerge [] kvs)])
    | none => none
  | .l ds => match pairsOf true ds with
    | some kvs => some (.v (.ref M.length), M ++ [.dic true (dmerge [] kvs)])
    | none => none
  | _ => none
/-- dict(x) of a new list of pairs, the keys ints or texts -/
def biDictK (a : A) (M : Mem) : Option (A × Mem) := match a with
  | .l ds => match pairsOf false ds with
    | some kvs => some (.v (.ref M.length), M ++ [.dic false (dmerge [] kvs)])
    | none => none
  | _ => none
def biList (a : A) (M : Mem) : Option (A × Mem) := (itemsOf M a).map fun ds => (.l ds, M)
def biSorted (a : A) (M : Mem) : Option (A × Mem) := match drawsOf M a with
  | some ds => if sortOk ds then some (.l (sortD ds), M) else none
  | none => none
def biSum (a : A) (M : Mem) : Option (A × Mem) := match itemsOf M a with
  | some ds => (intsOf ds).map fun is => (.v (.int is.sum), M)
  | none => none
def biAll (a : A) (M : Mem) : Option (A × Mem) := match listOf M a with
  | some ds => (boolsOf ds).map fun bs => (.v (.bl (bs.all id)), M)
  | none => none
def biAny (a : A) (M : Mem) : Option (A × Mem) := match listOf M a with
  | some ds => (boolsOf ds).map fun bs => (.v (.bl (bs.any id)), M)
  | none => none
def biAbs (a : A) (M : Mem) : Option (A × Mem) := match a with
  | .v (.int i) => some (.v (.int (if i < 0 then -i else i)), M)
  | _ => none
def biInt (a : A) (M : Mem) : Option (A × Mem) := match a with
  | .v (.int i) => some (.v (.int i), M)
  | .v (.bl b) => some (.v (.int (if b then 1 else 0)), M)
  | _ => none
def biMax (a b : A) (M : Mem) : Option (A × Mem) := match a, b with
  | .v (.int i), .v (.int j) => some (.v (.int (if j > i then j else i)), M)
  | _, _ => none
def biMin (a b : A) (M : Mem) : Option (A × Mem) := match a, b with
  | .v (.int i), .v (.int j) => some (.v (.int (if j < i then j else i)), M)
  | _, _ => none
def biMaxL (a : A) (M : Mem) : Option (A × Mem) := match itemsOf M a with
  | some ds => match intsOf ds with
    | some is => (maxI is).map fun m => (.v (.int m), M)
    | none => none
  | none => none
def biMinL (a : A) (M : Mem) : Option (A × Mem) := match listOf M a with
  | some ds => match intsOf ds with
    | some is => (minI is).map fun m => (.v (.int m), M)
    | none => if sortOk ds && D.noxs ds then (minDat ds).map fun d => (.v d, M) else none
  | none => none
def biMaxA (as : List A) (M : Mem) : Option (A × Mem) := match as with
  | [a] => biMaxL a M
  | as => un2 biMax as M
def biMinA (as : List A) (M : Mem) : Option (A × Mem) := match as with
  | [a] => biMinL a M
  | as => un2 biMin as M
/-- each of some ints once -/
def nubI : List Int → List Int
  | [] => []
  | x :: xs => if x ∈ xs then nubI xs else x :: nubI xs
def srtI (xs : List Int) : List Int := xs.mergeSort fun a b => decide (a ≤ b)
def biLenSet (a : A) (M : Mem) : Option (A × Mem) := match itemsOf M a with
  | some ds => match intsOf ds with
    | some is => if is.length ≤ 4000 then some (.v (.int (nubI is).length), M) else none
    | none => none
  | none => none
/-- rows of ints -/
def rowI : D → Option (List Int)
  | .tup ds => intsOf ds
  | _ => none
def rowsI : List D → Option (List (List Int))
  | [] => some []
  | d :: ds => match rowI d, rowsI ds with
    | some r, some rs => some (r :: rs)
    | _, _ => none
def nubR : List (List Int) → List (List Int)
  | [] => []
  | x :: xs => if x ∈ xs then nubR xs else x :: nubR xs
def eqLen : List (List Int) → Bool
  | [] => true
  | r :: rs => decide (0 < r.length) && rs.all fun q => decide (q.length = r.length)
def tI0 (l : List Int) : D := .tup (l.map .int)
def biSrtRows (a : A) (M : Mem) : Option (A × Mem) := match listOf M a with
  | some ds => match rowsI ds with
    | some rows => if rows.length < 64 ∧ eqLen rows = true then some (.l (sortD ((nubR rows).map tI0)), M) else none
    | none => none
  | none => none
def biSrtSet (a : A) (M : Mem) : Option (A × Mem) := match itemsOf M a with
  | some ds => match intsOf ds with
    | some is => if is.length ≤ 4000 ∧ (nubI is).length < 64 then some (.l ((srtI (nubI is)).map .int), M) else none
    | none => biSrtRows a M
  | none => none
def rangeD (i j : Int) : List D := (List.range (j - i).toNat).map fun (k : Nat) => D.int (i + (k : Int))
/-- list(range(i, j)) -/
def biLRng (a b : A) (M : Mem) : Option (A × Mem) := match a, b with
  | .v (.int i), .v (.int j) => if -(2 ^ 60) ≤ i ∧ i < 2 ^ 60 ∧ -(2 ^ 60) ≤ j ∧ j < 2 ^ 60 ∧ j - i ≤ line then some (.l (rangeD i j), M) else none
  | _, _ => none
def biA (f : BI) (as : List A) (M : Mem) : Option (A × Mem) := match f with
  | .len => un1 biLen as M
  | .tuple => un1 biTuple as M
  | .list => un1 biList as M
  | .sorted => un1 biSorted as M
  | .sum => un1 biSum as M
  | .all => un1 biAll as M
  | .any => un1 biAny as M
  | .abs => un1 biAbs as M
  | .int => un1 biInt as M
  | .max => biMaxA as M
  | .min => biMinA as M
  | .set false => un1 biLenSet as M
  | .dict false => un2 biLRng as M
  | .dict true => un1 biDictX as M
  | .xtup => un1 biXtup as M
  | .dictK => un1 biDictK as M
  | .set true => un1 biSrtSet as M
def isTy : Ty → D → Bool
  | .int, .int _ => true
  | .int, .bl _ => true
  | .bool, .bl _ => true
  | .str, .str _ => true
  | .tuple, .tup _ => true
  | .tuple, .xt _ => true
  | .list, .fz _ => true
  | _, _ => false
def isTyA (M : Mem) (t : Ty) : A → Option Bool
  | .l _ => some (decide (t = .list))
  | .v (.ref n) => match M[n]? with
    | some (.lst _) => some (decide (t = .list))
    | some (.dic _ _) => some false
    | _ => none
  | .v d => some (isTy t d)
def ixD (M : Mem) (a : A) (b : D) : Option D := match a, b with
  | .v (.ref n), k => match M[n]? with
    | some (.lst ds) => match k with
      | .int i => atI ds i
      | _ => none
    | some (.dic t kvs) => if isKey t k then dget kvs k else none
    | _ => none
  | a, .int i => match itemsOf M a with
    | some ds => atI ds i
    | none => none
  | _, _ => none
def optI : D → Option (Option Int)
  | .non => some none
  | .int i => some (some i)
  | _ => none
def cutD (ds : List D) (lo hi : Option Int) : List D := (ds.drop (HT.sIx ds.length 0 lo)).take (HT.sIx ds.length ds.length hi - HT.sIx ds.length 0 lo)
/-- a part of a sequence: a tuple's a tuple, a list's a list -/
def slA (M : Mem) (a : A) (lo hi : Option Int) : Option A := match a with
  | .v (.tup ds) => some (.v (.tup (cutD ds lo hi)))
  | .v (.xt _) => none
  | a => (itemsOf M a).map fun ds => .l (cutD ds lo hi)
/-- turned round: a tuple's a tuple, a list's a list -/
def revA (a : A) (M : Mem) : Option (A × Mem) := match a with
  | .v (.tup ds) => some (.v (.tup ds.reverse), M)
  | .v (.xt _) => none
  | a => (itemsOf M a).map fun ds => (.l ds.reverse, M)
def getF (M : Mem) (d : D) (f : Nat) : Option D := match d with
  | .ref n => match M[n]? with
    | some (.ins C fs) => if (C, f) ∈ Tab.fl then fs.lookup f else none
    | _ => none
  | _ => none
def putFs (f : Nat) (v : D) : List (Nat × D) → List (Nat × D)
  | [] => [(f, v)]
  | p :: fs => if p.1 = f then (f, v) :: fs else p :: putFs f v fs
def setF (M : Mem) (d : D) (f : Nat) (v : D) : Option Mem := match d with
  | .ref n => match M[n]? with
    | some (.ins C fs) => if (C, f) ∈ Tab.fl ∧ fs.length < 1000 ∧ f < Tab.nm.length then some (M.set n (.ins C (putFs f v fs))) else none
    | _ => none
  | _ => none
def setI (M : Mem) (d k v : D) : Option Mem := match d with
  | .ref n => match M[n]? with
    | some (.lst ds) => match k with
      | .int i => match ixN ds.length i with
        | some j => some (M.set n (.lst (ds.set j v)))
        | none => none
      | _ => none
    | some (.dic t kvs) => if isKey t k ∧ kvs.length < line then some (M.set n (.dic t (dput kvs k v))) else none
    | _ => none
  | _ => none
/-- all of a list's items exchanged for those of another one -/
def setWh (M : Mem) (a d : D) : Option Mem := match a, d with
  | .ref p, .ref q => match M[p]?, M[q]? with
    | some (.lst xs), some (.lst ys) => if p ≠ q ∧ xs.length + ys.length ≤ line then some (M.set p (.lst ys)) else none
    | _, _ => none
  | _, _ => none
/-- a method of a built-in type -/
def bmAppend (n : Nat) (ds : List D) (as : List A) (M : Mem) : Option (A × Mem) := match as with
  | [.v d] => if ds.length < line then some (.v .non, M.set n (.lst (ds ++ [d]))) else none
  | [.l xs] => if ds.length < line then some (.v .non, M.set n (.lst (ds ++ [.ref M.length])) ++ [.lst xs]) else none
  | _ => none
def bmPop (n : Nat) (ds : List D) (as : List A) (M : Mem) : Option (A × Mem) := match as with
  | [] => match ds[ds.length - 1]? with
    | some d => some (.v d, M.set n (.lst ds.dropLast))
    | none => none
  | _ => none
def bmGet (t : Bool) (kvs : List (D × D)) (as : List A) (M : Mem) : Option (A × Mem) := match as with
  | [.v k] => if isKey t k then some (.v ((dget kvs k).getD .non), M) else none
  | [.v k, .v d] => if isKey t k then some (.v ((dget kvs k).getD d), M) else none
  | _ => none
def bmExtend (n : Nat) (ds : List D) (as : List A) (M : Mem) : Option (A × Mem) := match as with
  | [.l xs] => if ds.length + xs.length ≤ line then some (.v .non, M.set n (.lst (ds ++ xs))) else none
  | [.v (.tup xs)] => if ds.length + xs.length ≤ line then some (.v .non, M.set n (.lst (ds ++ xs))) else none
  | [.v (.ref m)] => match M[m]? with
    | some (.lst xs) => if ds.length + xs.length ≤ line then some (.v .non, M.set n (.lst (ds ++ xs))) else none
    | _ => none
  | _ => none
def bmRemove (n : Nat) (ds : List D) (as : List A) (M : Mem) : Option (A × Mem) := match as with
  | [.v (.int k)] => match intsOf ds with
    | some is => if k ∈ is then some (.v .non, M.set n (.lst ((is.erase k).map .int))) else none
    | none => none
  | _ => none
def bmCount (ds : List D) (as : List A) (M : Mem) : Option (A × Mem) := match as with
  | [.v (.int k)] => match intsOf ds with
    | some is => some (.v (.int (is.count k : Nat)), M)
    | none => none
  | _ => none
/-- the first place of an equal one -/
def bmIndex (ds : List D) (as : List A) (M : Mem) : Option (A × Mem) := match as with
  | [.v x] => match pyOf M (.v x) with
    | some d => if D.pures ds && SeqAt.shaped (.list (D.pys ds)) && SeqAt.shaped d then ((D.pys ds).findIdx? fun z => PyData.eqv z d).map fun (j : Nat) => (.v (.int (j : Int)), M) else none
    | none => none
  | _ => none
def bmPopAt (n : Nat) (ds : List D) (as : List A) (M : Mem) : Option (A × Mem) := match as with
  | [.v (.int 0)] => match ds with
    | d :: rest => some (.v d, M.set n (.lst rest))
    | [] => none
  | _ => none
def bmA (n : Nat) (o : MO) (m : BM) (as : List A) (M : Mem) : Option (A × Mem) := match m with
  | .extend => match o with
    | .lst ds => bmExtend n ds as M
    | _ => none
  | .remove => match o with
    | .lst ds => bmRemove n ds as M
    | _ => none
  | .index => match o with
    | .lst ds => bmIndex ds as M
    | _ => none
  | .count => match o with
    | .lst ds => bmCount ds as M
    | _ => none
  | .popAt => match o with
    | .lst ds => bmPopAt n ds as M
    | _ => none
  | .append => match o with
    | .lst ds => bmAppend n ds as M
    | _ => none
  | .get => match o with
    | .dic t kvs => bmGet t kvs as M
    | _ => none
  | .pop => match o with
    | .lst ds => bmPop n ds as M
    | _ => none
def kindM : MO → Nat
  | .lst _ => 0
  | .dic false _ => 1
  | .dic true _ => 2
  | .ins _ _ => 3
  | .set false _ => 4
  | .set true _ => 5
/-- the slots of the block's own names forgotten -/
def wipeE (v : Env) : List Nat → Env
  | [] => v
  | i :: is => (wipeE v is).set i none
mutual
def asgT : Tg → D → Env → Option Env
  | .nm i, d, v => if i < v.length then some (v.set i (some d)) else none
  | .tp ts, .tup ds, v => asgTs ts ds v
  | .tp _, _, _ => none
def asgTs : List Tg → List D → Env → Option Env
  | [], [], v => some v
  | t :: ts, d :: ds, v => match asgT t d v with
    | some v' => asgTs ts ds v'
    | none => none
  | _, _, _ => none
end
/-- a list that is walked must stand as it stood -/
def still (M : Mem) : Option (Nat × MO) → Bool
  | none => true
  | some (n, o) => decide (M[n]? = some o)
def guardOf (M : Mem) : A → Option (Nat × MO)
  | .v (.ref n) => (M[n]?).map fun o => (n, o)
  | _ => none
def lcLoop (body : D → Mem → Option (Option D × Mem)) (g : Option (Nat × MO)) : List D → Mem → Option (List D × Mem)
  | [], M => if still M g then some ([], M) else none
  | d :: ds, M => if still M g then bnd (body d M) fun r M1 => bnd (lcLoop body g ds M1) fun rs M2 => match r with
      | some y => some (y :: rs, M2)
      | none => some (rs, M2)
    else none

def pairUp : List D → Option (List (D × D))
  | [] => some []
  | k :: d :: r => (pairUp r).map ((k, d) :: ·)
  | [_] => none
mutual
def ev (cf : Cf) : E → Env → Mem → Option (A × Mem)
  | .var i, v, M => match v[i]? with
    | some (some d) => some (.v d, M)
    | _ => none
  | .cst d, _, M => some (.v d, M)
  | .op o a b, v, M => bnd (ev cf a v M) fun x M => bnd (ev cf b v M) fun y M => op2 o x y M
  | .chain o p a b c, v, M => bnd (ev cf a v M) fun x M => bnd (ev cf b v M) fun y M => bnd (op2 o x y M) fun r M => match r with
    | .v (.bl true) => bnd (ev cf c v M) fun z M => op2 p y z M
    | .v (.bl false) => some (.v (.bl false), M)
    | _ => none
  | .neg a, v, M => bnd (ev cf a v M) fun x M => match x with
    | .v (.int i) => some (.v (.int (-i)), M)
    | _ => none
  | .not a, v, M => bnd (ev cf a v M) fun x M => bnd (toB x M) fun b M => some (.v (.bl (!b)), M)
  | .and a b, v, M => bnd (ev cf a v M) fun x M => bnd (toB x M) fun c M => if c = true then ev cf b v M else some (.v (.bl false), M)
  | .or a b, v, M => bnd (ev cf a v M) fun x M => bnd (toB x M) fun c M => if c = true then some (.v (.bl true), M) else ev cf b v M
  | .ite c a b, v, M => bnd (ev cf c v M) fun x M => bnd (toB x M) fun c M => if c = true then ev cf a v M else ev cf b v M
  | .tup es, v, M => bnd (evs cf es v M) fun ds M => if ds.length ≤ line then some (.v (.tup ds), M) else none
  | .lst es, v, M => bnd (evs cf es v M) fun ds M => if ds.length ≤ line then some (.l ds, M) else none
  | .dic t es, v, M => bnd (evs cf es v M) fun ds M => match pairUp ds with
    | some kvs => if kvs.length ≤ 15 ∧ kvs.all (fun p => isKey t p.1) = true then some (.v (.ref M.length), M ++ [.dic t (dmerge [] kvs)]) else none
    | none => none
  | .ix a b, v, M => bnd (ev cf a v M) fun x M => bnd (ev cf b v M) fun y M => match y with
    | .v k => (ixD M x k).map fun d => (.v d, M)
    | .l _ => none
  | .sl a lo hi, v, M => bnd (ev cf a v M) fun x M => bnd (ev cf lo v M) fun l M => bnd (ev cf hi v M) fun h M => match l, h with
    | .v l, .v h => match optI l, optI h with
      | some l, some h => (slA M x l h).map fun r => (r, M)
      | _, _ => none
    | _, _ => none
  | .rev a, v, M => bnd (ev cf a v M) revA
  | .call f es, v, M => bnd (evs cf es v M) fun ds M => bnd (cf.call f ds M) fun d M => some (.v d, M)
  | .mk C es, v, M => bnd (evs cf es v M) fun ds M => bnd (cf.init C (.ref M.length :: ds) (M ++ [.ins C []])) fun d M2 => if d = .non then some (.v (.ref M.length), M2) else none
  | .meth o m b es, v, M => bnd (ev cf o v M) fun x M => match x with
    | .v (.ref n) => match M[n]? with
      | some (.ins C fs) => match m with
        | some m => if (fs.lookup m).isNone then match Tab.mt.lookup (C, m) with
            | some f => bnd (evs cf es v M) fun ds M => bnd (cf.call f (.ref n :: ds) M) fun d M => some (.v d, M)
            | none => none
          else none
        | none => none
      | some _ => match b with
        | some b => bnd (evas cf es v M) fun as M2 => match M2[n]? with
          | some o => if some (kindM o) = (M[n]?).map kindM then bmA n o b as M2 else none
          | none => none
        | none => none
      | none => none
    | _ => none
  | .bi f es, v, M => bnd (evas cf es v M) fun as M => biA f as M
  | .fld o f, v, M => bnd (ev cf o v M) fun x M => match x with
    | .v d => (getF M d f).map fun y => (.v y, M)
    | _ => none
  | .isi a t, v, M => bnd (ev cf a v M) fun x M => (isTyA M t x).map fun b => (.v (.bl b), M)
  | .lc e t it c own, v, M => bnd (evIt cf it v M) fun p M => bnd (lcLoop (fun d M => match asgT t d (wipeE v own) with
      | some v2 => bnd (ev cf c v2 M) fun x M => bnd (toB x M) fun b M => if b = true then bnd (ev cf e v2 M) fun y M => bnd (toD y M) fun y M => some (some y, M) else some (none, M)
      | none => none) p.2 p.1 M) fun ds M => some (.l ds, M)
def evs (cf : Cf) : Es → Env → Mem → Option (List D × Mem)
  | .nil, _, M => some ([], M)
  | .cons e es, v, M => bnd (ev cf e v M) fun x M => bnd (toD x M) fun d M => bnd (evs cf es v M) fun ds M => some (d :: ds, M)
def evas (cf : Cf) : Es → Env → Mem → Option (List A × Mem)
  | .nil, _, M => some ([], M)
  | .cons e es, v, M => bnd (ev cf e v M) fun x M => bnd (evas cf es v M) fun xs M => some (x :: xs, M)
def evIt (cf : Cf) : It → Env → Mem → Option ((List D × Option (Nat × MO)) × Mem)
  | .ex e, v, M => bnd (ev cf e v M) fun x M => (itemsOf M x).map fun ds => ((ds, guardOf M x), M)
  | .rng a b, v, M => bnd (ev cf a v M) fun x M => bnd (ev cf b v M) fun y M => match x, y with
    | .v (.int i), .v (.int j) => if -(2 ^ 60) ≤ i ∧ i < 2 ^ 60 ∧ -(2 ^ 60) ≤ j ∧ j < 2 ^ 60 ∧ j - i ≤ line then some ((rangeD i j, none), M) else none
    | _, _ => none
end
def evD (cf : Cf) (e : E) (v : Env) (M : Mem) : Option (D × Mem) := bnd (ev cf e v M) toD
def evB (cf : Cf) (e : E) (v : Env) (M : Mem) : Option (Bool × Mem) := bnd (ev cf e v M) toB

/-- x op= y -/
def opI (o : Op2) (i j : Int) (M : Mem) : Option (D × Mem) := match o with
  | .add => some (.int (i + j), M)
  | .sub => some (.int (i - j), M)
  | .mul => if mulOk i j then some (.int (i * j), M) else none
  | .fdiv => if 0 < j ∧ j < 1073741824 then some (.int (i / j), M) else none
  | .mod => if 0 < j then some (.int (i % j), M) else none
  | _ => none
def opS (o : Op2) (x y : Str) (M : Mem) : Option (D × Mem) := match o with
  | .add => if x.length + y.length ≤ line then some (.str (x ++ y), M) else none
  | _ => none
def opi (o : Op2) (a : D) (b : A) (M : Mem) : Option (D × Mem) := match a, b with
  | .int i, .v (.int j) => opI o i j M
  | .str x, .v (.str y) => opS o x y M
  | _, _ => none
def clsOf (M : Mem) : D → Option Nat
  | .ref n => match M[n]? with
    | some (.ins C _) => some C
    | _ => none
  | _ => none
inductive Fl where
  | nx | bk | ct | rt (d : D)
def whileL (c : Env → Mem → Option (Bool × Mem)) (b : Env → Mem → Option ((Fl × Env) × Mem)) : Nat → Env → Mem → Option ((Fl × Env) × Mem)
  | 0, _, _ => none
  | n + 1, v, M => bnd (c v M) fun t M => if t = true then bnd (b v M) fun r M => match r with
      | (.nx, v) => whileL c b n v M
      | (.ct, v) => whileL c b n v M
      | (.bk, v) => some ((.nx, v), M)
      | (.rt d, v) => some ((.rt d, v), M)
    else some ((.nx, v), M)
def forL (b : D → Env → Mem → Option ((Fl × Env) × Mem)) (g : Option (Nat × MO)) : List D → Env → Mem → Option ((Fl × Env) × Mem)
  | [], v, M => if still M g then some ((.nx, v), M) else none
  | d :: ds, v, M => if still M g then bnd (b d v M) fun r M => match r with
      | (.nx, v) => forL b g ds v M
      | (.ct, v) => forL b g ds v M
      | (.bk, v) => some ((.nx, v), M)
      | (.rt d, v) => some ((.rt d, v), M)
    else none
def whileMost : Nat := 1000000

def asgS (cf : Cf) : TgS → D → Env → Mem → Option (Env × Mem)
  | .tg t, d, v, M => (asgT t d v).map fun v => (v, M)
  | .sub o i, d, v, M => bnd (evD cf o v M) fun a M => bnd (evD cf i v M) fun k M => (setI M a k d).map fun M => (v, M)
  | .fld o f, d, v, M => bnd (evD cf o v M) fun a M => (setF M a f d).map fun M => (v, M)
  | .all o, d, v, M => bnd (evD cf o v M) fun a M => (setWh M a d).map fun M => (v, M)
def setAll : List Nat → List D → Env → Env
  | i :: is, d :: ds, v => setAll is ds (v.set i (some d))
  | _, _, v => v
mutual
def ex (cf : Cf) : S → Env → Mem → Option ((Fl × Env) × Mem)
  | .expr e, v, M => bnd (ev cf e v M) fun _ M => some ((.nx, v), M)
  | .ret e, v, M => bnd (evD cf e v M) fun d M => some ((.rt d, v), M)
  | .pass, v, M => some ((.nx, v), M)
  | .brk, v, M => some ((.bk, v), M)
  | .cont, v, M => some ((.ct, v), M)
  | .asg t e, v, M => bnd (evD cf e v M) fun d M => bnd (asgS cf t d v M) fun v M => some ((.nx, v), M)
  | .par is es, v, M => bnd (evs cf es v M) fun ds M => if is.length = ds.length ∧ is.all (· < v.length) = true ∧ is.length < 4 then some ((.nx, setAll is.reverse ds.reverse v), M) else none
  | .aug i o e, v, M => match v[i]? with
    | some (some x) => bnd (ev cf e v M) fun y M => bnd (opi o x y M) fun d M => some ((.nx, v.set i (some d)), M)
    | _ => none
  | .augs a b o e, v, M => bnd (evD cf a v M) fun a M => bnd (evD cf b v M) fun k M => match ixD M (.v a) k with
    | some x => bnd (ev cf e v M) fun y M => bnd (opi o x y M) fun d M => (setI M a k d).map fun M => ((.nx, v), M)
    | none => none
  | .augf a f o e, v, M => bnd (evD cf a v M) fun a M => match getF M a f with
    | some x => bnd (ev cf e v M) fun y M2 => bnd (opi o x y M2) fun d M2 => if clsOf M2 a = clsOf M a then (setF M2 a f d).map fun M => ((.nx, v), M) else none
    | none => none
  | .ite c a b, v, M => bnd (evB cf c v M) fun t M => if t = true then exs cf a v M else exs cf b v M
  | .while c b, v, M => whileL (evB cf c) (exs cf b) whileMost v M
  | .for t it b, v, M => bnd (evIt cf it v M) fun p M => forL (fun d v M => match asgT t d v with
      | some v => exs cf b v M
      | none => none) p.2 p.1 v M
  | .del a b, v, M => none
def exs (cf : Cf) : Ss → Env → Mem → Option ((Fl × Env) × Mem)
  | .nil, v, M => some ((.nx, v), M)
  | .cons s ss, v, M => bnd (ex cf s v M) fun r M => match r with
    | (.nx, v) => exs cf ss v M
    | r => some (r, M)
end

/-! ### programs -/
structure FD where
  params : Nat
  slots : Nat
  body : Ss
/-- what a call leaves: where what stood ahead of it holds nothing new, the new objects are dropped -/
def fin (M : Mem) (d : D) (M' : Mem) : D × Mem :=
  if (d.lo M.length && (List.range M.length).all fun i => decide (M'[i]? = M[i]?) || (match M'[i]? with
    | some o => o.lo M.length
    | none => false)) = true then (d, M'.take M.length) else (d, M')
def iniOf (c : Nat → List D → Mem → Option (D × Mem)) (C : Nat) (ds : List D) (M : Mem) : Option (D × Mem) := match Tab.ini.lookup C with
  | some f => c f ds M
  | none => none
def callAt (P : List FD) : Nat → Nat → List D → Mem → Option (D × Mem)
  | 0, _, _, _ => none
  | k + 1, f, ds, M => match P[f]? with
    | none => none
    | some fd => if ds.length = fd.params then
        bnd (exs ⟨callAt P k, iniOf (callAt P (k - 1))⟩ fd.body (ds.map some ++ List.replicate (fd.slots - fd.params) none) M) fun r M' => match r with
          | (.rt d, _) => some (fin M d M')
          | (.nx, _) => some (fin M .non M')
          | _ => none
      else none
end
end Ev
namespace Ev
open PySem PySem.W L2 PyProof.Rows
/-! ### data and the heap -/
abbrev Frg := PySem.W.Frag
def FzL (K : Frg) (H : Hp) (a : Addr) (xs : List V) : Prop :=
  (∃ o, H a = some (.frz o (.lst xs))) ∨
    ∃ (o : Obj) (its : Array Value) (n : Nat), K.lookup a = some o ∧ o.cls = .type "list" ∧ o.dict = none ∧ o.data = .seq its n ∧ its.size ≤ sizeLine ∧ Vals xs its.toList
theorem FzL.sq {K : Frg} {H : Hp} {a : Addr} {xs : List V} (h : FzL K H a xs) : SqL K H a xs := h.elim (fun ⟨o, e⟩ => .inl (.inr ⟨o, e⟩)) .inr
/-- a plain tuple: its object is known -/
def XtL (H : Hp) (a : Addr) (xs : List V) : Prop := ∃ o : Obj, H a = some (.frz o (.tup xs)) ∧ o.dict = none
theorem XtL.sq {K : Frg} {H : Hp} {a : Addr} {xs : List V} (h : XtL H a xs) : SqT K H a xs := .inl (.inr ⟨_, h.choose_spec.1⟩)
mutual
def RV (K : Frg) (r : List Addr) (H : Hp) : D → V → Prop
  | .non, v => v = .non
  | .bl b, v => v = .bl b
  | .int i, v => v = .int i
  | .str x, v => v = .str x
  | .tup ds, v => ∃ a vs, v = .ref a ∧ H a = some (.tup vs) ∧ ds.length ≤ sizeLine ∧ RVs K r H ds vs
  | .fz ds, v => ∃ a vs, v = .ref a ∧ FzL K H a vs ∧ ds.length ≤ sizeLine ∧ RVs K r H ds vs
  | .xt ds, v => ∃ a vs, v = .ref a ∧ XtL H a vs ∧ ds.length ≤ sizeLine ∧ RVs K r H ds vs
  | .ref n, v => ∃ a, v = .ref a ∧ r[n]? = some a
def RVs (K : Frg) (r : List Addr) (H : Hp) : List D → List V → Prop
  | [], vs => vs = []
  | d :: ds, vs => ∃ v ws, vs = v :: ws ∧ RV K r H d v ∧ RVs K r H ds ws
end
def kD : Key → D
  | .inl i => .int i
  | .inr x => .str x
def RKV {κ : Type} (K : Frg) (r : List Addr) (H : Hp) (f : κ → D) (p : D × D) (q : κ × V) : Prop := p.1 = f q.1 ∧ RV K r H p.2 q.2
def tD (k : List Key) : D := .tup (k.map kD)
def RFs [Tab] (K : Frg) (r : List Addr) (H : Hp) : List (Nat × D) → List (Str × V) → Prop
  | [], gs => gs = []
  | p :: fs, gs => ∃ x v hs, Tab.nm[p.1]? = some x ∧ gs = (x, v) :: hs ∧ RV K r H p.2 v ∧ RFs K r H fs hs
/-- what stands at a tracked place; sets later -/
def RO [Tab] (K : Frg) (mg : Str → Option Value) (r : List Addr) (H : Hp) (a : Addr) : MO → Prop
  | .lst ds => ∃ vs, H a = some (.lst vs) ∧ ds.length ≤ sizeLine ∧ RVs K r H ds vs
  | .dic false kvs => ∃ ks : List (Key × V), H a = some (.dK ks) ∧ kvs.length ≤ sizeLine ∧ Paired (RKV K r H kD) kvs ks
  | .dic true kvs => ∃ ks : List (List Key × V), H a = some (.dT ks) ∧ kvs.length ≤ sizeLine ∧ Paired (RKV K r H tD) kvs ks
  | .ins C fs => ∃ (x : Str) (c dx : Addr) (gs : List (Str × V)), (Tab.cn[C]? = some x ∧ mg x = some (.ref c) ∧ Cls K c ∧ ∀ f y, (C, f) ∈ Tab.fl → Tab.nm[f]? = some y → NoAttr K c y) ∧ H a = some (.ins c dx gs) ∧ RFs K r H fs gs
  | .set _ _ => False
structure Rel [Tab] (K : Frg) (mg : Str → Option Value) (r : List Addr) (H : Hp) (M : Mem) : Prop where
  len : r.length = M.length
  nd : r.Nodup
  ob : ∀ (i : Nat) (a : Addr) (o : MO), r[i]? = some a → M[i]? = some o → RO K mg r H a o
/-- from one moment to a later one -/
structure Nx (r : List Addr) (H : Hp) (r' : List Addr) (H' : Hp) : Prop where
  pre : ∃ t, r' = r ++ t
  fr : ∀ b o, H b = some o → b ∉ r → H' b = some o
  new : ∀ a ∈ r', a ∉ r → H a = none
section
variable [Tab] {K : Frg} {mg : Str → Option Value} {r r' r'' : List Addr} {H H' H'' : Hp} {M M' : Mem} {a b : Addr}
theorem RO.mt {o : MO} (h : RO K mg r H a o) : Mut (H a) := by
  cases o with
  | lst ds => obtain ⟨vs, e, _⟩ := h; rw [e]; exact True.intro
  | dic t kvs =>
    cases t with
    | false => obtain ⟨ks, e, _⟩ := h; rw [e]; exact True.intro
    | true => obtain ⟨ks, e, _⟩ := h; rw [e]; exact True.intro
  | ins C fs => obtain ⟨x, c, dx, gs, _, e, _⟩ := h; rw [e]; exact True.intro
  | set t ks => exact h.elim
theorem Rel.mt (R : Rel K mg r H M) (h : a ∈ r) : Mut (H a) := by
  obtain ⟨i, hi⟩ := List.getElem?_of_mem h
  have hl : i < M.length := by rw [← R.len]; exact (List.getElem?_eq_some_iff.mp hi).1
  exact (R.ob i a _ hi (List.getElem?_eq_getElem hl)).mt
theorem Rel.out (R : Rel K mg r H M) {o : HO} (e : H a = some o) (n : ¬ Mut (some o)) : a ∉ r := fun h => n (by rw [← e]; exact R.mt h)
theorem Rel.off (R : Rel K mg r H M) (e : H a = none) : a ∉ r := fun h => by
  have := R.mt h; rw [e] at this; exact this
theorem Nx.rfl' : Nx r H r H := ⟨⟨[], by simp⟩, fun _ _ e _ => e, fun a h n => absurd h n⟩
theorem Nx.trans (R : Rel K mg r H M) (n : Nx r H r' H') (m : Nx r' H' r'' H'') : Nx r H r'' H'' := by
  obtain ⟨t, rfl⟩ := n.pre
  obtain ⟨u, rfl⟩ := m.pre
  refine ⟨⟨t ++ u, by simp⟩, fun b o e hb => m.fr b o (n.fr b o e hb) fun h => ?_, fun a h hn => ?_⟩
  · have := n.new b h hb
    rw [e] at this; cases this
  · cases q : H a with
    | none => rfl
    | some o =>
      have q' := n.fr a o q hn
      by_cases ha : a ∈ r ++ t
      · have := n.new a ha hn; rw [q] at this; cases this
      · have := m.new a h ha; rw [q'] at this; cases this
theorem Nx.get (n : Nx r H r' H') {i : Nat} (h : r[i]? = some a) : r'[i]? = some a := by
  obtain ⟨t, rfl⟩ := n.pre
  rw [List.getElem?_append_left (List.getElem?_eq_some_iff.mp h).1]; exact h
/-- what stands of values: places stay, what never changes stays -/
structure Wk (r : List Addr) (H : Hp) (r' : List Addr) (H' : Hp) : Prop where
  pre : ∃ t, r' = r ++ t
  im : ∀ b o, H b = some o → ¬ Mut (some o) → H' b = some o
theorem Nx.wk (R : Rel K mg r H M) (n : Nx r H r' H') : Wk r H r' H' := ⟨n.pre, fun b o e m => n.fr b o e (R.out e m)⟩
theorem Wk.get (n : Wk r H r' H') {i : Nat} (h : r[i]? = some a) : r'[i]? = some a := by
  obtain ⟨t, rfl⟩ := n.pre
  rw [List.getElem?_append_left (List.getElem?_eq_some_iff.mp h).1]; exact h
theorem SqT.wk (n : Wk r H r' H') {vs : List V} (h : SqT K H a vs) : SqT K H' a vs := by
  rcases h with (h | ⟨o, h⟩) | h
  · exact .inl (.inl (n.im _ _ h fun z => z))
  · exact .inl (.inr ⟨o, n.im _ _ h fun z => z⟩)
  · exact .inr h
theorem FzL.wk (n : Wk r H r' H') {vs : List V} (h : FzL K H a vs) : FzL K H' a vs := by
  rcases h with ⟨o, h⟩ | h
  · exact .inl ⟨o, n.im _ _ h fun z => z⟩
  · exact .inr h
mutual
theorem RV.wk (n : Wk r H r' H') : ∀ {d : D} {v : V}, RV K r H d v → RV K r' H' d v
  | .non, _, h => h
  | .bl _, _, h => h
  | .int _, _, h => h
  | .str _, _, h => h
  | .tup _, _, ⟨a, vs, e, q, l, s⟩ => ⟨a, vs, e, n.im _ _ q (fun z => z), l, RVs.wk n s⟩
  | .fz _, _, ⟨a, vs, e, q, l, s⟩ => ⟨a, vs, e, FzL.wk n q, l, RVs.wk n s⟩
  | .xt _, _, ⟨a, vs, e, ⟨o, q, d⟩, l, s⟩ => ⟨a, vs, e, ⟨o, n.im _ _ q (fun z => z), d⟩, l, RVs.wk n s⟩
  | .ref _, _, ⟨a, e, q⟩ => ⟨a, e, n.get q⟩
theorem RVs.wk (n : Wk r H r' H') : ∀ {ds : List D} {vs : List V}, RVs K r H ds vs → RVs K r' H' ds vs
  | [], _, h => h
  | _ :: _, _, ⟨v, ws, e, h, hs⟩ => ⟨v, ws, e, RV.wk n h, RVs.wk n hs⟩
end
theorem RFs.wk (n : Wk r H r' H') : ∀ {fs : List (Nat × D)} {gs : List (Str × V)}, RFs K r H fs gs → RFs K r' H' fs gs
  | [], _, h => h
  | _ :: _, _, ⟨x, v, ws, ex, e, h, hs⟩ => ⟨x, v, ws, ex, e, RV.wk n h, RFs.wk n hs⟩
theorem RKV.wk {κ : Type} {f : κ → D} (n : Wk r H r' H') {p : D × D} {q : κ × V} (h : RKV K r H f p q) : RKV K r' H' f p q := ⟨h.1, RV.wk n h.2⟩
/-- an object that stays -/
theorem RO.wk (n : Wk r H r' H') (e : H' a = H a) {o : MO} (h : RO K mg r H a o) : RO K mg r' H' a o := by
  cases o with
  | lst ds => obtain ⟨vs, q, l, s⟩ := h; exact ⟨vs, e.trans q, l, RVs.wk n s⟩
  | dic t kvs =>
    cases t with
    | false => obtain ⟨ks, q, l, s⟩ := h; exact ⟨ks, e.trans q, l, Paired.mapP s fun _ _ z => RKV.wk n z⟩
    | true => obtain ⟨ks, q, l, s⟩ := h; exact ⟨ks, e.trans q, l, Paired.mapP s fun _ _ z => RKV.wk n z⟩
  | ins C fs => obtain ⟨x, c, dx, gs, g, q, s⟩ := h; exact ⟨x, c, dx, gs, g, e.trans q, RFs.wk n s⟩
  | set t ks => exact h.elim
theorem RV.nx (R : Rel K mg r H M) (n : Nx r H r' H') {d : D} {v : V} (h : RV K r H d v) : RV K r' H' d v := RV.wk (n.wk R) h
theorem RVs.nx (R : Rel K mg r H M) (n : Nx r H r' H') {ds : List D} {vs : List V} (h : RVs K r H ds vs) : RVs K r' H' ds vs := RVs.wk (n.wk R) h
theorem SqT.nx (R : Rel K mg r H M) (n : Nx r H r' H') {vs : List V} (h : SqT K H a vs) : SqT K H' a vs := SqT.wk (n.wk R) h
theorem RO.nx (R : Rel K mg r H M) (n : Nx r H r' H') (e : H' a = H a) {o : MO} (h : RO K mg r H a o) : RO K mg r' H' a o := RO.wk (n.wk R) e h
/-- a new thing that is not of the memory -/
theorem Nx.upd (R : Rel K mg r H M) {p : Addr} {o : HO} (hp : H p = none) : Nx r H r (upd H p o) :=
  ⟨⟨[], by simp⟩, fun b u e _ => by rw [upd_ne (ne_of_none e hp)]; exact e, fun a h n => absurd h n⟩
theorem Rel.upd (R : Rel K mg r H M) {p : Addr} {o : HO} (hp : p ∉ r) (hn : Nx r H r (upd H p o)) : Rel K mg r (upd H p o) M :=
  ⟨R.len, R.nd, fun i a u h q => RO.nx R hn (upd_ne fun e => hp (e ▸ List.mem_of_getElem? h)) (R.ob i a u h q)⟩
/-- a tracked thing joins the memory -/
theorem Rel.join (R : Rel K mg r H M) {p : Addr} {u : MO} (hr : p ∉ r) (n : Wk r H (r ++ [p]) H') (st : ∀ a ∈ r, H' a = H a) (h : RO K mg (r ++ [p]) H' p u) : Rel K mg (r ++ [p]) H' (M ++ [u]) := by
  refine ⟨by simp [R.len], ?_, fun i a w hi hw => ?_⟩
  · rw [List.nodup_append]
    exact ⟨R.nd, by simp, fun a ha b hb => by rw [List.mem_singleton] at hb; subst hb; exact fun e => hr (e ▸ ha)⟩
  · by_cases hl : i < r.length
    · rw [List.getElem?_append_left hl] at hi
      rw [List.getElem?_append_left (by rw [← R.len]; exact hl)] at hw
      exact RO.wk n (st a (List.mem_of_getElem? hi)) (R.ob i a w hi hw)
    · have hi' := (List.getElem?_eq_some_iff.mp hi).1
      rw [List.length_append, List.length_singleton] at hi'
      have e : i = r.length := by omega
      subst e
      rw [List.getElem?_append_right (Nat.le_refl _), Nat.sub_self] at hi
      rw [R.len, List.getElem?_append_right (Nat.le_refl _), Nat.sub_self] at hw
      cases hi; cases hw
      exact h
theorem Wk.self {t : List Addr} : Wk r H (r ++ t) H := ⟨⟨t, rfl⟩, fun _ _ e _ => e⟩
/-- a new object joins the memory -/
theorem Rel.add (R : Rel K mg r H M) {p : Addr} {o : HO} {u : MO} (hp : H p = none) (n : Nx r H (r ++ [p]) (L2.upd H p o)) (h : RO K mg (r ++ [p]) (L2.upd H p o) p u) : Rel K mg (r ++ [p]) (L2.upd H p o) (M ++ [u]) :=
  R.join (R.off hp) (n.wk R) (fun a ha => upd_ne fun e => R.off hp (e ▸ ha)) h
theorem Nx.add (R : Rel K mg r H M) {p : Addr} {o : HO} (hp : H p = none) : Nx r H (r ++ [p]) (L2.upd H p o) :=
  ⟨⟨[p], rfl⟩, fun b u e _ => by rw [upd_ne (ne_of_none e hp)]; exact e, fun a h n => by
    rcases List.mem_append.mp h with h | h
    · exact absurd h n
    · rw [List.mem_singleton] at h; rw [h]; exact hp⟩
/-- an object of the memory is changed -/
theorem Nx.put {i : Nat} (h : r[i]? = some a) {o : HO} : Nx r H r (L2.upd H a o) :=
  ⟨⟨[], by simp⟩, fun b u e n => by rw [upd_ne (show b ≠ a by intro q; subst q; exact n (List.mem_of_getElem? h))]; exact e, fun a h n => absurd h n⟩
theorem nodup_get (hN : r.Nodup) {i j : Nat} (h1 : r[i]? = some a) (h2 : r[j]? = some a) : i = j := by
  have a1 := (List.getElem?_eq_some_iff.mp h1)
  have a2 := (List.getElem?_eq_some_iff.mp h2)
  obtain ⟨l1, e1⟩ := a1
  obtain ⟨l2, e2⟩ := a2
  exact (List.getElem_inj hN).mp (e1.trans e2.symm)
theorem Rel.put (R : Rel K mg r H M) {i : Nat} (h : r[i]? = some a) {o : HO} {u : MO} (hu : RO K mg r (L2.upd H a o) a u) : Rel K mg r (L2.upd H a o) (M.set i u) := by
  refine ⟨by simp [R.len], R.nd, fun j b w hj hw => ?_⟩
  by_cases e : j = i
  · subst e
    rw [h] at hj; cases hj
    have hl : j < M.length := by rw [← R.len]; exact (List.getElem?_eq_some_iff.mp h).1
    rw [List.getElem?_set_self hl] at hw; cases hw
    exact hu
  · rw [List.getElem?_set_ne (Ne.symm e)] at hw
    exact RO.nx R (Nx.put h) (upd_ne fun q => e (nodup_get R.nd (q ▸ hj) h)) (R.ob j b w hj hw)
theorem Rel.at (R : Rel K mg r H M) {n : Nat} {o : MO} (h : M[n]? = some o) : ∃ a, r[n]? = some a ∧ RO K mg r H a o := by
  have hl : n < r.length := by rw [R.len]; exact (List.getElem?_eq_some_iff.mp h).1
  exact ⟨r[n], List.getElem?_eq_getElem hl, R.ob n _ o (List.getElem?_eq_getElem hl) h⟩
/-! lists of values -/
theorem RVs.length : ∀ {ds : List D} {vs : List V}, RVs K r H ds vs → ds.length = vs.length
  | [], _, h => by cases h; rfl
  | _ :: _, _, ⟨v, ws, e, h, hs⟩ => by subst e; simp [RVs.length hs]
theorem RVs.get : ∀ {ds : List D} {vs : List V} {i : Nat} {d : D}, RVs K r H ds vs → ds[i]? = some d → ∃ v, vs[i]? = some v ∧ RV K r H d v
  | [], _, i, d, h, e => by simp at e
  | _ :: _, _, 0, d, ⟨v, ws, e, h, hs⟩, q => by subst e; simp at q; subst q; exact ⟨v, rfl, h⟩
  | _ :: _, _, i + 1, d, ⟨v, ws, e, h, hs⟩, q => by
    subst e
    obtain ⟨x, h1, h2⟩ := RVs.get (i := i) hs (by simpa using q)
    exact ⟨x, by simpa using h1, h2⟩
theorem RVs.getv : ∀ {ds : List D} {vs : List V} {i : Nat} {v : V}, RVs K r H ds vs → vs[i]? = some v → ∃ d, ds[i]? = some d ∧ RV K r H d v
  | [], _, i, v, h, e => by cases h; simp at e
  | _ :: _, _, 0, v, ⟨x, ws, e, h, hs⟩, q => by subst e; simp at q; subst q; exact ⟨_, rfl, h⟩
  | _ :: _, _, i + 1, v, ⟨x, ws, e, h, hs⟩, q => by
    subst e
    obtain ⟨x, h1, h2⟩ := RVs.getv (i := i) hs (by simpa using q)
    exact ⟨x, by simpa using h1, h2⟩
theorem RVs.append : ∀ {ds es : List D} {vs ws : List V}, RVs K r H ds vs → RVs K r H es ws → RVs K r H (ds ++ es) (vs ++ ws)
  | [], _, _, _, h, q => by cases h; exact q
  | _ :: _, _, _, _, ⟨v, ws, e, h, hs⟩, q => by subst e; exact ⟨v, _, rfl, h, RVs.append hs q⟩
theorem RVs.drop : ∀ {ds : List D} {vs : List V} (n : Nat), RVs K r H ds vs → RVs K r H (ds.drop n) (vs.drop n)
  | _, _, 0, h => h
  | [], _, n + 1, h => by cases h; exact rfl
  | _ :: _, _, n + 1, ⟨v, ws, e, h, hs⟩ => by subst e; exact RVs.drop n hs
theorem RVs.take : ∀ {ds : List D} {vs : List V} (n : Nat), RVs K r H ds vs → RVs K r H (ds.take n) (vs.take n)
  | _, _, 0, h => rfl
  | [], _, n + 1, h => by cases h; exact rfl
  | _ :: _, _, n + 1, ⟨v, ws, e, h, hs⟩ => by subst e; exact ⟨v, _, rfl, h, RVs.take n hs⟩
theorem RVs.set : ∀ {ds : List D} {vs : List V} (n : Nat) {d : D} {v : V}, RVs K r H ds vs → RV K r H d v → RVs K r H (ds.set n d) (vs.set n v)
  | [], _, _, _, _, h, q => by cases h; exact rfl
  | _ :: _, _, 0, _, _, ⟨v, ws, e, h, hs⟩, q => by subst e; exact ⟨_, _, rfl, q, hs⟩
  | _ :: _, _, n + 1, _, _, ⟨v, ws, e, h, hs⟩, q => by subst e; exact ⟨_, _, rfl, h, RVs.set n hs q⟩
theorem RVs.one {d : D} {v : V} (h : RV K r H d v) : RVs K r H [d] [v] := ⟨v, [], rfl, h, rfl⟩
/-! what stands below a bound is told by the first places alone -/
mutual
theorem RV.lo : ∀ {d : D} {v : V}, RV K r H d v → d.lo r.length = true
  | .non, _, _ => rfl
  | .bl _, _, _ => rfl
  | .int _, _, _ => rfl
  | .str _, _, _ => rfl
  | .tup _, _, ⟨_, _, _, _, _, s⟩ => RVs.lo s
  | .fz _, _, ⟨_, _, _, _, _, s⟩ => RVs.lo s
  | .xt _, _, ⟨_, _, _, _, _, s⟩ => RVs.lo s
  | .ref _, _, ⟨_, _, q⟩ => decide_eq_true (List.getElem?_eq_some_iff.mp q).1
theorem RVs.lo : ∀ {ds : List D} {vs : List V}, RVs K r H ds vs → D.los r.length ds = true
  | [], _, _ => rfl
  | _ :: _, _, ⟨_, _, _, h, hs⟩ => by
    show (_ && _) = true
    rw [RV.lo h, RVs.lo hs]; rfl
end
mutual
theorem RV.cut {t : List Addr} : ∀ {d : D} {v : V}, RV K (r ++ t) H d v → d.lo r.length = true → RV K r H d v
  | .non, _, h, _ => h
  | .bl _, _, h, _ => h
  | .int _, _, h, _ => h
  | .str _, _, h, _ => h
  | .tup _, _, ⟨a, vs, e, q, l, s⟩, z => ⟨a, vs, e, q, l, RVs.cut s z⟩
  | .fz _, _, ⟨a, vs, e, q, l, s⟩, z => ⟨a, vs, e, q, l, RVs.cut s z⟩
  | .xt _, _, ⟨a, vs, e, q, l, s⟩, z => ⟨a, vs, e, q, l, RVs.cut s z⟩
  | .ref _, _, ⟨a, e, q⟩, z => ⟨a, e, by rw [List.getElem?_append_left (of_decide_eq_true z)] at q; exact q⟩
theorem RVs.cut {t : List Addr} : ∀ {ds : List D} {vs : List V}, RVs K (r ++ t) H ds vs → D.los r.length ds = true → RVs K r H ds vs
  | [], _, h, _ => h
  | _ :: _, _, ⟨v, ws, e, h, hs⟩, z => by
    have z' : (_ && _) = true := z
    rw [Bool.and_eq_true] at z'
    exact ⟨v, ws, e, RV.cut h z'.1, RVs.cut hs z'.2⟩
end
theorem RFs.lo : ∀ {fs : List (Nat × D)} {gs : List (Str × V)}, RFs K r H fs gs → (fs.all fun p => p.2.lo r.length) = true
  | [], _, _ => rfl
  | _ :: _, _, ⟨x, v, ws, ex, e, h, hs⟩ => by rw [List.all_cons, RV.lo h, RFs.lo hs]; rfl
theorem RFs.cut {t : List Addr} : ∀ {fs : List (Nat × D)} {gs : List (Str × V)}, RFs K (r ++ t) H fs gs → (fs.all fun p => p.2.lo r.length) = true → RFs K r H fs gs
  | [], _, h, _ => h
  | _ :: _, _, ⟨x, v, ws, ex, e, h, hs⟩, z => by
    rw [List.all_cons, Bool.and_eq_true] at z
    exact ⟨x, v, ws, ex, e, RV.cut h z.1, RFs.cut hs z.2⟩
theorem RK.lo {κ : Type} {f : κ → D} {kvs : List (D × D)} {ks : List (κ × V)} (h : Paired (RKV K r H f) kvs ks) : (kvs.all fun p => p.2.lo r.length) = true := by
  induction h with
  | nil => rfl
  | cons q _ ih => rw [List.all_cons, RV.lo q.2, ih]; rfl
theorem RK.cut {κ : Type} {f : κ → D} {t : List Addr} {kvs : List (D × D)} {ks : List (κ × V)} (h : Paired (RKV K (r ++ t) H f) kvs ks) (z : (kvs.all fun p => p.2.lo r.length) = true) : Paired (RKV K r H f) kvs ks := by
  induction h with
  | nil => exact .nil
  | cons q _ ih =>
    rw [List.all_cons, Bool.and_eq_true] at z
    exact .cons ⟨q.1, RV.cut q.2 z.1⟩ (ih z.2)
theorem RO.lo {o : MO} (h : RO K mg r H a o) : o.lo r.length = true := by
  cases o with
  | lst ds => obtain ⟨vs, q, l, s⟩ := h; exact RVs.lo s
  | dic t kvs =>
    cases t with
    | false => obtain ⟨ks, q, l, s⟩ := h; exact RK.lo s
    | true => obtain ⟨ks, q, l, s⟩ := h; exact RK.lo s
  | ins C fs => obtain ⟨x, c, dx, gs, g, q, s⟩ := h; exact RFs.lo s
  | set t ks => rfl
theorem RO.cut {t : List Addr} {o : MO} (h : RO K mg (r ++ t) H a o) (z : o.lo r.length = true) : RO K mg r H a o := by
  cases o with
  | lst ds => obtain ⟨vs, q, l, s⟩ := h; exact ⟨vs, q, l, RVs.cut s z⟩
  | dic t kvs =>
    cases t with
    | false => obtain ⟨ks, q, l, s⟩ := h; exact ⟨ks, q, l, RK.cut s z⟩
    | true => obtain ⟨ks, q, l, s⟩ := h; exact ⟨ks, q, l, RK.cut s z⟩
  | ins C fs => obtain ⟨x, c, dx, gs, g, q, s⟩ := h; exact ⟨x, c, dx, gs, g, q, RFs.cut s z⟩
  | set t ks => exact h.elim
/-- the new objects are dropped -/
theorem Rel.fin {d : D} {v : V} (R : Rel K mg r H M) (n : Nx r H r' H') (R' : Rel K mg r' H' M') (hv : RV K r' H' d v) : ∃ r2, Rel K mg r2 H' (fin M d M').2 ∧ Nx r H r2 H' ∧ RV K r2 H' (fin M d M').1 v := by
  unfold Ev.fin
  split
  · rename_i hc
    rw [Bool.and_eq_true, List.all_eq_true] at hc
    obtain ⟨t, rfl⟩ := n.pre
    have hl : M.length ≤ M'.length := by rw [← R.len, ← R'.len]; simp
    refine ⟨r, ⟨by rw [List.length_take, R.len]; omega, R.nd, fun i a o hi ho => ?_⟩, ⟨⟨[], by simp⟩, n.fr, fun a h q => absurd h q⟩, ?_⟩
    · have hi' := (List.getElem?_eq_some_iff.mp hi).1
      rw [R.len] at hi'
      rw [List.getElem?_take_of_lt hi'] at ho
      have ro := R'.ob i a o (n.get hi) ho
      refine RO.cut ro ?_
      have z := hc.2 i (List.mem_range.mpr hi')
      rw [ho, Bool.or_eq_true, decide_eq_true_eq] at z
      rcases z with z | z
      · exact (R.ob i a o hi z.symm).lo
      · rw [R.len]; exact z
    · exact RV.cut hv (by rw [R.len]; exact hc.1)
  · exact ⟨r', R', n, hv⟩
end
end Ev
namespace Ev
open PySem PySem.W L2 PyProof.Rows
theorem line_le : line ≤ sizeLine := by rw [sizeLine_eq]; decide
theorem line_lt : line < sizeLine := by rw [sizeLine_eq]; decide
/-! ### what a new list is to a later moment -/
def RA (K : Frg) (H0 : Hp) (r : List Addr) (H : Hp) : A → V → Prop
  | .v d, x => RV K r H d x
  | .l ds, x => ∃ p vs, x = .ref p ∧ H0 p = none ∧ p ∉ r ∧ H p = some (.lst vs) ∧ ds.length ≤ sizeLine ∧ RVs K r H ds vs
section
variable [Tab] {K : Frg} {mg : Str → Option Value} {r r' r'' : List Addr} {H0 H H' H'' : Hp} {M M' : Mem}
theorem RA.nx (R : Rel K mg r H M) (n : Nx r H r' H') {a : A} {x : V} (h : RA K H0 r H a x) : RA K H0 r' H' a x := by
  cases a with
  | v d => exact RV.nx R n h
  | l ds =>
    obtain ⟨p, vs, e, z, hp, q, l, s⟩ := h
    exact ⟨p, vs, e, z, (fun hm => by have z := n.new p hm hp; rw [q] at z; cases z), n.fr _ _ q hp, l, RVs.nx R n s⟩
/-- what was new at a later moment was new at the first -/
theorem Nx.none (R : Rel K mg r H M) (R' : Rel K mg r' H' M') (n : Nx r H r' H') {p : Addr} (h : H' p = none) : H p = none := by
  cases q : H p with
  | none => rfl
  | some o =>
    by_cases hp : p ∈ r
    · obtain ⟨t, rfl⟩ := n.pre
      have := R'.mt (List.mem_append_left t hp)
      rw [h] at this; exact this.elim
    · have := n.fr _ _ q hp
      rw [h] at this; cases this
theorem RA.back (R : Rel K mg r H M) (R' : Rel K mg r' H' M') (n : Nx r H r' H') {a : A} {x : V} (h : RA K H' r'' H'' a x) : RA K H r'' H'' a x := by
  cases a with
  | v d => exact h
  | l ds =>
    obtain ⟨p, vs, e, z, hp, q, l, s⟩ := h
    exact ⟨p, vs, e, n.none R R' z, hp, q, l, s⟩
/-- a new list becomes an object of the memory -/
theorem RA.toD {a : A} {x : V} {d : D} {M2 : Mem} (n : Nx r H r' H') (R' : Rel K mg r' H' M') (h : RA K H r' H' a x) (e : toD a M' = some (d, M2)) :
    ∃ r2, Rel K mg r2 H' M2 ∧ Nx r H r2 H' ∧ RV K r2 H' d x := by
  cases a with
  | v d' =>
    cases e
    exact ⟨r', R', n, h⟩
  | l ds =>
    obtain ⟨p, vs, rfl, z, hp, q, l, s⟩ := h
    cases e
    refine ⟨r' ++ [p], R'.join hp Wk.self (fun _ _ => rfl) ⟨vs, q, l, RVs.wk Wk.self s⟩, ⟨?_, n.fr, fun a ha hn => ?_⟩, ⟨p, rfl, ?_⟩⟩
    · obtain ⟨t, rfl⟩ := n.pre
      exact ⟨t ++ [p], by simp⟩
    · rcases List.mem_append.mp ha with ha | ha
      · exact n.new a ha hn
      · rw [List.mem_singleton] at ha; rw [ha]; exact z
    · rw [← R'.len, List.getElem?_append_right (Nat.le_refl _), Nat.sub_self]; rfl
end

/-! ### the names' values -/
def RE (K : Frg) (r : List Addr) (H : Hp) (v : Env) (σ : L2.St) : Prop := v.length = σ.length ∧ ∀ (i : Nat) (d : D), v[i]? = some (some d) → ∃ x, σ[i]? = some (some x) ∧ RV K r H d x
section
variable [Tab] {K : Frg} {mg : Str → Option Value} {r r' : List Addr} {H H' : Hp} {M M' : Mem} {v : Env} {σ : L2.St}
theorem RE.wk (n : Wk r H r' H') (h : RE K r H v σ) : RE K r' H' v σ := ⟨h.1, fun i d e => let ⟨x, a, b⟩ := h.2 i d e; ⟨x, a, RV.wk n b⟩⟩
theorem RE.nx (R : Rel K mg r H M) (n : Nx r H r' H') (h : RE K r H v σ) : RE K r' H' v σ := h.wk (n.wk R)
theorem RE.set (h : RE K r H v σ) (i : Nat) {d : D} {x : V} (q : RV K r H d x) : RE K r H (v.set i (some d)) (σ.set i (some x)) := by
  refine ⟨by simp [h.1], fun j e hj => ?_⟩
  by_cases hij : i = j
  · subst hij
    by_cases hl : i < v.length
    · rw [List.getElem?_set_self hl] at hj; cases hj
      exact ⟨x, List.getElem?_set_self (by rw [← h.1]; exact hl), q⟩
    · rw [List.getElem?_eq_none (by simpa using hl)] at hj; cases hj
  · rw [List.getElem?_set_ne hij] at hj
    rw [List.getElem?_set_ne hij]
    exact h.2 j e hj
theorem RE.wipe1 (h : RE K r H v σ) (i : Nat) : RE K r H (v.set i none) (σ.set i none) := by
  refine ⟨by simp [h.1], fun j e hj => ?_⟩
  by_cases hij : i = j
  · subst hij
    by_cases hl : i < v.length
    · rw [List.getElem?_set_self hl] at hj; cases hj
    · rw [List.getElem?_eq_none (by simpa using hl)] at hj; cases hj
  · rw [List.getElem?_set_ne hij] at hj
    rw [List.getElem?_set_ne hij]
    exact h.2 j e hj
theorem RE.wipe (h : RE K r H v σ) : ∀ is : List Nat, RE K r H (wipeE v is) (wipe σ is)
  | [] => h
  | i :: is => (RE.wipe h is).wipe1 i
end

/-! ### the readings -/
section
variable [Tab]
def PoA (K : Frg) (mg : Str → Option Value) (r : List Addr) (H : Hp) (a : A) (M' : Mem) (Q : V → Hp → Prop) : Prop := ∀ r' H' x, Rel K mg r' H' M' → Nx r H r' H' → RA K H r' H' a x → Q x H'
def PoD (K : Frg) (mg : Str → Option Value) (r : List Addr) (H : Hp) (d : D) (M' : Mem) (Q : V → Hp → Prop) : Prop := ∀ r' H' x, Rel K mg r' H' M' → Nx r H r' H' → RV K r' H' d x → Q x H'
def PoB (K : Frg) (mg : Str → Option Value) (r : List Addr) (H : Hp) (b : Bool) (M' : Mem) (Q : Bool → Hp → Prop) : Prop := ∀ r' H', Rel K mg r' H' M' → Nx r H r' H' → Q b H'
def PoDs (K : Frg) (mg : Str → Option Value) (r : List Addr) (H : Hp) (d : List D) (M' : Mem) (Q : List V → Hp → Prop) : Prop := ∀ r' H' x, Rel K mg r' H' M' → Nx r H r' H' → RVs K r' H' d x → Q x H'
def RAs (K : Frg) (H0 : Hp) (r : List Addr) (H : Hp) : List A → List V → Prop
  | [], xs => xs = []
  | a :: as, xs => ∃ y ys, xs = y :: ys ∧ RA K H0 r H a y ∧ RAs K H0 r H as ys
def PoAs (K : Frg) (mg : Str → Option Value) (r : List Addr) (H : Hp) (d : List A) (M' : Mem) (Q : List V → Hp → Prop) : Prop := ∀ r' H' x, Rel K mg r' H' M' → Nx r H r' H' → RAs K H r' H' d x → Q x H'
/-- from there: a memory, names' values -/
def Fr0 (K : Frg) (mg : Str → Option Value) (σ : L2.St) (H : Hp) (r : List Addr) (v : Env) (M : Mem) : Prop := Rel K mg r H M ∧ RE K r H v σ
def TrA (cf : Cf) (K : Frg) (mg : Str → Option Value) (e : E) : TE := fun σ H Q => ∃ r v M a M', Fr0 K mg σ H r v M ∧ ev cf e v M = some (a, M') ∧ PoA K mg r H a M' Q
def TrD (cf : Cf) (K : Frg) (mg : Str → Option Value) (e : E) : TE := fun σ H Q => ∃ r v M d M', Fr0 K mg σ H r v M ∧ evD cf e v M = some (d, M') ∧ PoD K mg r H d M' Q
def TrB (cf : Cf) (K : Frg) (mg : Str → Option Value) (e : E) : TT := fun σ H Q => ∃ r v M b M', Fr0 K mg σ H r v M ∧ evB cf e v M = some (b, M') ∧ PoB K mg r H b M' Q
def TrDs (cf : Cf) (K : Frg) (mg : Str → Option Value) (es : Es) : TA := fun σ H Q => ∃ r v M d M', Fr0 K mg σ H r v M ∧ evs cf es v M = some (d, M') ∧ PoDs K mg r H d M' Q
def TrAs (cf : Cf) (K : Frg) (mg : Str → Option Value) (es : Es) : TA := fun σ H Q => ∃ r v M d M', Fr0 K mg σ H r v M ∧ evas cf es v M = some (d, M') ∧ PoAs K mg r H d M' Q
end
section
variable [Tab] {K : Frg} {mg : Str → Option Value} {r r' : List Addr} {H H' : Hp} {M M' : Mem} {v : Env} {σ : L2.St}
theorem PoA.at {a : A} {x : V} {Q : V → Hp → Prop} (P : PoA K mg r H a M Q) (R : Rel K mg r H M) (h : RA K H r H a x) : Q x H := P r H x R Nx.rfl' h
theorem Fr0.nx {M1 : Mem} (F : Fr0 K mg σ H r v M) (R' : Rel K mg r' H' M1) (n : Nx r H r' H') : Fr0 K mg σ H' r' v M1 := ⟨R', F.2.nx F.1 n⟩
theorem PoA.nx {a : A} {Q : V → Hp → Prop} {M1 : Mem} (P : PoA K mg r H a M' Q) (R : Rel K mg r H M) (R' : Rel K mg r' H' M1) (n : Nx r H r' H') : PoA K mg r' H' a M' Q := fun r2 H2 x R2 n2 h => P r2 H2 x R2 (n.trans R n2) (h.back R R' n)
end
theorem _root_.L2.PE.evI {X : Cx} {e : Expr} {t t' : TE} (h : PE X e t) (i : ∀ σ H Q, t' σ H Q → t σ H Q) : PE X e t' := ⟨fun pins s σ H Q I q => h.run pins s σ H Q I (i _ _ _ q)⟩
theorem _root_.L2.PT.evI {X : Cx} {e : Expr} {t t' : TT} (h : PT X e t) (i : ∀ σ H Q, t' σ H Q → t σ H Q) : PT X e t' := ⟨fun pins s σ H Q I q => h.run pins s σ H Q I (i _ _ _ q)⟩
theorem _root_.L2.PW.evI {X : Cx} {e : Expr} {t t' : TT} (h : PW X e t) (i : ∀ σ H Q, t' σ H Q → t σ H Q) : PW X e t' := ⟨fun w pins s σ H Q I q => h.run w pins s σ H Q I (i _ _ _ q)⟩
theorem _root_.L2.PA.evI {X : Cx} {es : List Expr} {t t' : TA} (h : PA X es t) (i : ∀ σ H Q, t' σ H Q → t σ H Q) : PA X es t' := ⟨fun pos pins s σ H Q I q => h.run pos pins s σ H Q I (i _ _ _ q)⟩
theorem _root_.L2.PE.evOr {X : Cx} {e : Expr} {t t' : TE} (h : PE X e t) (h' : PE X e t') : PE X e (fun σ H Q => t σ H Q ∨ t' σ H Q) := ⟨fun pins s σ H Q I q => q.elim (h.run pins s σ H Q I) (h'.run pins s σ H Q I)⟩
theorem _root_.L2.OpR.evI {X : Cx} {f : Value → Value → Sem Value} {q q' : R2} (h : OpR X f q) (i : ∀ x y H Q, q' x y H Q → q x y H Q) : OpR X f q' := fun pins s σ H x y v u Q I rx ry z => h pins s σ H x y v u Q I rx ry (i _ _ _ _ z)

structure CE [Tab] (X : Cx) (cf : Cf) (e : Expr) (c : E) : Prop where
  pe : PE X e (TrA cf X.K X.mg c)
  pt : PT X e (TrB cf X.K X.mg c)
structure CW [Tab] (X : Cx) (cf : Cf) (e : Expr) (c : E) : Prop where
  pe : PE X e (TrA cf X.K X.mg c)
  pw : PW X e (TrB cf X.K X.mg c)
theorem CW.ce [Tab] {X : Cx} {cf : Cf} {e : Expr} {c : E} (h : CW X cf e c) : CE X cf e c := ⟨h.pe, h.pw.pt⟩
section
variable [Tab] {X : Cx} {cf : Cf} {e a b c : Expr} {ca cb cc : E} {pos : Pos}
theorem evB_eq {v : Env} {M M' : Mem} {k : Bool} (h : evB cf ca v M = some (k, M')) : ev cf ca v M = some (.v (.bl k), M') := by
  obtain ⟨x, M1, h1, h2⟩ := bnd_eq h
  unfold toB at h2
  split at h2
  · cases h2; exact h1
  · cases h2
/-- a test as a value is tested -/
theorem tb_of (σ : L2.St) (H : Hp) (Q : Bool → Hp → Prop) (h : TrB cf X.K X.mg ca σ H Q) : tB (TrA cf X.K X.mg ca) σ H Q := by
  obtain ⟨r, v, M, k, M', F, e, P⟩ := h
  refine ⟨r, v, M, _, M', F, evB_eq e, fun r' H' x R n q => ⟨k, q, P r' H' R n⟩⟩
theorem CE.of (h : PE X e (TrA cf X.K X.mg ca)) (he : ∀ whole, PySem.isTrue e X.env whole = (do let v ← whole; standAt e.pos; holding [v] (truthy v))) : CE X cf e ca :=
  ⟨h, (pt_val h he).evI fun σ H Q z => tb_of σ H Q z⟩
theorem CE.pd (h : CE X cf e ca) : PE X e (TrD cf X.K X.mg ca) := h.pe.evI fun σ H Q z => by
  obtain ⟨r, v, M, d, M', F, e, P⟩ := z
  obtain ⟨x, M1, h1, h2⟩ := bnd_eq e
  refine ⟨r, v, M, x, M1, F, h1, fun r' H' y R n q => ?_⟩
  obtain ⟨r2, R2, n2, q2⟩ := RA.toD n R q h2
  exact P r2 H' y R2 n2 q2
/-! ### names, constants -/
theorem ce_var {i : Nat} {x : Str} (hN : X.N[i]? = some x) (hv : Vis X.env.scope x) (hd : (x == ("__debug__" : Str)) = false) (hcd : (x == ("__classdict__" : Str)) = false) : CE X cf (.Name x pos) (.var i) :=
  CE.of ((pe_var hN hv hd hcd).evI fun σ H Q z => by
    obtain ⟨r, v, M, a, M', F, e, P⟩ := z
    have e : (match v[i]? with
      | some (some d) => some (A.v d, M)
      | _ => none) = some (a, M') := e
    split at e
    · rename_i d h
      cases e
      obtain ⟨x, h1, h2⟩ := F.2.2 i d h
      exact ⟨x, h1, P.at F.1 h2⟩
    · cases e) fun _ => rfl
theorem ce_cst {d : D} {y : V} {k : Const} {j : Nat} (h : PE X (.Constant k j pos) (tC y)) (hd : ∀ K r H, RV K r H d y) : CE X cf (.Constant k j pos) (.cst d) :=
  CE.of (h.evI fun σ H Q z => by
    obtain ⟨r, v, M, a, M', F, e, P⟩ := z
    cases e
    exact P.at F.1 (hd _ _ _)) fun _ => rfl
/-! ### two places -/
def R2o (K : Frg) (mg : Str → Option Value) (o : Op2) : R2 := fun x y H Q => ∃ r M a b c M' H0 H1, Rel K mg r H M ∧ RA K H0 r H a x ∧ RA K H1 r H b y ∧ op2 o a b M = some (c, M') ∧ PoA K mg r H c M' Q
theorem top_of {o : Op2} (σ : L2.St) (H : Hp) (Q : V → Hp → Prop) (z : TrA cf X.K X.mg (.op o ca cb) σ H Q) : tOp (R2o X.K X.mg o) (TrA cf X.K X.mg ca) (TrA cf X.K X.mg cb) σ H Q := by
  obtain ⟨r, v, M, x, M', F, e, P⟩ := z
  obtain ⟨y, M1, h1, e⟩ := bnd_eq e
  obtain ⟨w, M2, h2, e⟩ := bnd_eq e
  exact ⟨r, v, M, y, M1, F, h1, fun r1 H1 x1 R1 n1 q1 => ⟨r1, v, M1, w, M2, F.nx R1 n1, h2, fun r2 H2 x2 R2 n2 q2 =>
    ⟨r2, M2, y, w, x, M', _, _, R2, q1.nx R1 n2, q2, e, (P.nx F.1 R1 n1).nx R1 R2 n2⟩⟩⟩
theorem ce_bin {op : Operator} {o : Op2} (ho : OpR X (binaryOp op) (R2o X.K X.mg o)) (ha : CE X cf a ca) (hb : CE X cf b cb) : CE X cf (.BinOp a op b pos) (.op o ca cb) :=
  CE.of ((pe_op ho ha.pe hb.pe).evI fun σ H Q z => top_of σ H Q z) fun _ => rfl
theorem ce_cmp {op : CmpOp} {o : Op2} (ho : OpR X (compareOp op) (R2o X.K X.mg o)) (ha : CE X cf a ca) (hb : CE X cf b cb) (hm : behindInMarks op b = false) : CE X cf (.Compare a [op] [b] pos) (.op o ca cb) :=
  ⟨(pe_cmpR ho ha.pe hb.pe hm).evI fun σ H Q z => top_of σ H Q z, (pt_cmpR ho ha.pe hb.pe hm).evI fun σ H Q z => by
    have z' := tb_of (ca := .op o ca cb) σ H Q z
    exact top_of σ H _ z'⟩
theorem tch_of {o p : Op2} (σ : L2.St) (H : Hp) (Q : V → Hp → Prop) (z : TrA cf X.K X.mg (.chain o p ca cb cc) σ H Q) :
    tChain (R2o X.K X.mg o) (R2o X.K X.mg p) (TrA cf X.K X.mg ca) (TrA cf X.K X.mg cb) (TrA cf X.K X.mg cc) σ H Q := by
  obtain ⟨r, v, M, x, M', F, e, P⟩ := z
  obtain ⟨y, M1, h1, e⟩ := bnd_eq e
  obtain ⟨w, M2, h2, e⟩ := bnd_eq e
  obtain ⟨k, M3, h3, e⟩ := bnd_eq e
  refine ⟨r, v, M, y, M1, F, h1, fun r1 H1 x1 R1 n1 q1 => ⟨r1, v, M1, w, M2, F.nx R1 n1, h2, fun r2 H2 x2 R2 n2 q2 =>
    ⟨r2, M2, y, w, k, M3, _, _, R2, q1.nx R1 n2, q2, h3, fun r3 H3 x3 R3 n3 q3 => ?_⟩⟩⟩
  have P3 := ((P.nx F.1 R1 n1).nx R1 R2 n2).nx R2 R3 n3
  split at e
  · cases q3
    refine ⟨true, rfl, ?_⟩
    rw [if_pos rfl]
    obtain ⟨u, M4, h4, e⟩ := bnd_eq e
    exact ⟨r3, v, M3, u, M4, ((F.nx R1 n1).nx R2 n2).nx R3 n3, h4, fun r4 H4 x4 R4 n4 q4 => ⟨r4, M4, w, u, x, M', _, _, R4, (q2.nx R2 n3).nx R3 n4, q4, e, P3.nx R3 R4 n4⟩⟩
  · cases q3
    refine ⟨false, rfl, ?_⟩
    rw [if_neg (by decide)]
    cases e
    exact P3.at R3 rfl
  · cases e
theorem ce_chain {op op' : CmpOp} {o p : Op2} (ho : OpR X (compareOp op) (R2o X.K X.mg o)) (ho' : OpR X (compareOp op') (R2o X.K X.mg p)) (ha : CE X cf a ca) (hb : CE X cf b cb) (hc : CE X cf c cc)
    (hm : lastMarks [op, op'] [b, c] = false) : CE X cf (.Compare a [op, op'] [b, c] pos) (.chain o p ca cb cc) :=
  ⟨(pe_chain ho ho' ha.pe hb.pe hc.pe hm).evI fun σ H Q z => tch_of σ H Q z, (pt_chain ho ho' ha.pe hb.pe hc.pe hm).evI fun σ H Q z => tch_of σ H _ (tb_of (ca := .chain o p ca cb cc) σ H Q z)⟩
/-! ### tests -/
theorem tB_ev {v : Env} {M M1 M2 : Mem} {y : A} {k : Bool} (h1 : ev cf ca v M = some (y, M1)) (h2 : toB y M1 = some (k, M2)) : evB cf ca v M = some (k, M2) ∧ y = .v (.bl k) ∧ M2 = M1 := by
  have h : evB cf ca v M = some (k, M2) := by show bnd _ _ = _; rw [h1]; exact h2
  have h' := evB_eq h
  rw [h1] at h'; cases h'
  exact ⟨h, rfl, rfl⟩
/-- a test ahead of a choice -/
theorem tB_bnd {β : Type} {v : Env} {M : Mem} {f : Bool → Mem → Option β} {y : β} (h : (bnd (ev cf ca v M) fun x M => bnd (toB x M) fun b M => f b M) = some y) : ∃ k M1, evB cf ca v M = some (k, M1) ∧ ev cf ca v M = some (.v (.bl k), M1) ∧ f k M1 = some y := by
  obtain ⟨a, M1, h1, g1⟩ := bnd_eq h
  obtain ⟨k, M2, h2, g2⟩ := bnd_eq g1
  have q := tB_ev h1 h2
  exact ⟨k, M2, q.1, evB_eq q.1, g2⟩
theorem evB_mk {v : Env} {M M1 : Mem} {k : Bool} (h : ev cf ca v M = some (.v (.bl k), M1)) : evB cf ca v M = some (k, M1) := by show bnd _ _ = _; rw [h]; rfl
theorem ce_not (ha : CE X cf a ca) : CE X cf (.UnaryOp .Not a pos) (.not ca) := by
  refine ⟨(pe_not ha.pe).evI fun σ H Q z => ?_, (pt_not ha.pt).evI fun σ H Q z => ?_⟩
  · obtain ⟨r, v, M, x, M', F, e, P⟩ := z
    obtain ⟨k, N1, _, h1, h2⟩ := tB_bnd e
    cases h2
    exact ⟨r, v, M, _, _, F, h1, fun r1 H1 x1 R1 n1 q1 => ⟨k, q1, P r1 H1 _ R1 n1 rfl⟩⟩
  · obtain ⟨r, v, M, k, M', F, e, P⟩ := z
    obtain ⟨k', N1, hB, h1, h2⟩ := tB_bnd (evB_eq e)
    cases h2
    exact ⟨r, v, M, k', _, F, hB, fun r1 H1 R1 n1 => P r1 H1 R1 n1⟩
theorem cw_and {rest : List Expr} (ha : CE X cf a ca) (hb : CW X cf (.BoolOp .And (b :: rest) pos) cb) : CW X cf (.BoolOp .And (a :: b :: rest) pos) (.and ca cb) := by
  refine ⟨(pe_and ha.pe hb.pe).evI fun σ H Q z => ?_, (pw_and ha.pt hb.pw).evI fun σ H Q z => ?_⟩
  · obtain ⟨r, v, M, x, M', F, e, P⟩ := z
    obtain ⟨k, N1, _, h1, h2⟩ := tB_bnd e
    refine ⟨r, v, M, _, _, F, h1, fun r1 H1 x1 R1 n1 q1 => ⟨k, q1, ?_⟩⟩
    cases k with
    | true => rw [if_pos rfl] at h2 ⊢; exact ⟨r1, v, N1, x, M', F.nx R1 n1, h2, P.nx F.1 R1 n1⟩
    | false => rw [if_neg (by decide)] at h2 ⊢; cases h2; exact (P.nx F.1 R1 n1).at R1 rfl
  · obtain ⟨r, v, M, k, M', F, e, P⟩ := z
    obtain ⟨k1, N1, hB, h1, h2⟩ := tB_bnd (evB_eq e)
    refine ⟨r, v, M, _, _, F, hB, fun r1 H1 R1 n1 => ?_⟩
    cases k1 with
    | true =>
      rw [if_pos rfl] at h2 ⊢
      exact ⟨r1, v, N1, k, M', F.nx R1 n1, evB_mk h2, fun r2 H2 R2 n2 => P r2 H2 R2 (n1.trans F.1 n2)⟩
    | false => rw [if_neg (by decide)] at h2 ⊢; cases h2; exact P r1 H1 R1 n1
theorem cw_or {rest : List Expr} (ha : CE X cf a ca) (hb : CW X cf (.BoolOp .Or (b :: rest) pos) cb) : CW X cf (.BoolOp .Or (a :: b :: rest) pos) (.or ca cb) := by
  refine ⟨(pe_or ha.pe hb.pe).evI fun σ H Q z => ?_, (pw_or ha.pt hb.pw).evI fun σ H Q z => ?_⟩
  · obtain ⟨r, v, M, x, M', F, e, P⟩ := z
    obtain ⟨k, N1, _, h1, h2⟩ := tB_bnd e
    refine ⟨r, v, M, _, _, F, h1, fun r1 H1 x1 R1 n1 q1 => ⟨k, q1, ?_⟩⟩
    cases k with
    | false => rw [if_neg (by decide)] at h2 ⊢; exact ⟨r1, v, N1, x, M', F.nx R1 n1, h2, P.nx F.1 R1 n1⟩
    | true => rw [if_pos rfl] at h2 ⊢; cases h2; exact (P.nx F.1 R1 n1).at R1 rfl
  · obtain ⟨r, v, M, k, M', F, e, P⟩ := z
    obtain ⟨k1, N1, hB, h1, h2⟩ := tB_bnd (evB_eq e)
    refine ⟨r, v, M, _, _, F, hB, fun r1 H1 R1 n1 => ?_⟩
    cases k1 with
    | false =>
      rw [if_neg (by decide)] at h2 ⊢
      exact ⟨r1, v, N1, k, M', F.nx R1 n1, evB_mk h2, fun r2 H2 R2 n2 => P r2 H2 R2 (n1.trans F.1 n2)⟩
    | true => rw [if_pos rfl] at h2 ⊢; cases h2; exact P r1 H1 R1 n1
theorem cw_one {op : BoolOp} (ha : CE X cf a ca) : CW X cf (.BoolOp op [a] pos) ca := by
  refine ⟨pe_one ha.pe, ?_⟩
  cases op with
  | And => exact pw_and1 ha.pt
  | Or => exact pw_or1 ha.pt
theorem ce_ite (hc : CE X cf c cc) (ha : CE X cf a ca) (hb : CE X cf b cb) : CE X cf (.IfExp c a b pos) (.ite cc ca cb) := by
  refine ⟨(pe_ifExp hc.pt ha.pe hb.pe).evI fun σ H Q z => ?_, ⟨fun pins s σ H Q I z => ?_⟩⟩
  · obtain ⟨r, v, M, x, M', F, e, P⟩ := z
    obtain ⟨k, N1, hB, h1, h2⟩ := tB_bnd e
    refine ⟨r, v, M, k, _, F, hB, fun r1 H1 R1 n1 => ?_⟩
    cases k with
    | false => rw [if_neg (by decide)] at h2 ⊢; exact ⟨r1, v, N1, x, M', F.nx R1 n1, h2, P.nx F.1 R1 n1⟩
    | true => rw [if_pos rfl] at h2 ⊢; exact ⟨r1, v, N1, x, M', F.nx R1 n1, h2, P.nx F.1 R1 n1⟩
  · obtain ⟨r, v, M, k, M', F, e, P⟩ := z
    obtain ⟨k1, N1, hB, h1, h2⟩ := tB_bnd (evB_eq e)
    show wpAny _ X.A (do if ← PySem.isTrue c X.env (eval c X.env) then PySem.isTrue a X.env (eval a X.env) else PySem.isTrue b X.env (eval b X.env)) _ _ _
    refine wpAny_bind (thn (hc.pt.run pins s σ H (fun d H1 => d = k1 ∧ ∃ r1, Rel X.K X.mg r1 H1 N1 ∧ Nx r H r1 H1) I ⟨r, v, M, k1, _, F, hB, fun r1 H1 R1 n1 => ⟨rfl, r1, R1, n1⟩⟩) fun d s1 q => ?_)
    obtain ⟨H1, I1, rfl, r1, R1, n1⟩ := q
    cases d with
    | true =>
      rw [if_pos rfl] at h2
      rw [if_pos rfl]
      exact (ha.pt.run pins s1 σ H1 Q I1 ⟨r1, v, N1, k, M', F.nx R1 n1, evB_mk h2, fun r2 H2 R2 n2 => P r2 H2 R2 (n1.trans F.1 n2)⟩)
    | false =>
      rw [if_neg (by decide)] at h2
      rw [if_neg (by decide)]
      exact (hb.pt.run pins s1 σ H1 Q I1 ⟨r1, v, N1, k, M', F.nx R1 n1, evB_mk h2, fun r2 H2 R2 n2 => P r2 H2 R2 (n1.trans F.1 n2)⟩)
end
end Ev
namespace Ev
open PySem PySem.W L2 PyProof.Rows
section
variable [Tab] {X : Cx} {cf : Cf} {e a b c o : Expr} {ca cb cc co ce : E} {es : List Expr} {ces : Es} {pos apos : Pos}
/-! ### items in a row -/
theorem pds_nil : PA X [] (TrDs cf X.K X.mg .nil) := pa_nil.evI fun σ H Q z => by
  obtain ⟨r, v, M, d, M', F, e, P⟩ := z
  cases e
  exact P r H [] F.1 Nx.rfl' rfl
theorem pds_cons (ha : CE X cf e ce) (hr : PA X es (TrDs cf X.K X.mg ces)) (hs : starEach (e :: es) X.env = (false, eval e X.env) :: starEach es X.env) : PA X (e :: es) (TrDs cf X.K X.mg (.cons ce ces)) :=
  (pa_cons ha.pd hr hs).evI fun σ H Q z => by
    obtain ⟨r, v, M, d, M', F, e, P⟩ := z
    obtain ⟨x, M1, h1, e1⟩ := bnd_eq e
    obtain ⟨y, M2, h2, e2⟩ := bnd_eq e1
    obtain ⟨ys, M3, h3, e3⟩ := bnd_eq e2
    cases e3
    refine ⟨r, v, M, y, M2, F, by show bnd _ _ = _; rw [h1]; exact h2, fun r1 H1 x1 R1 n1 q1 => ⟨r1, v, M2, ys, _, F.nx R1 n1, h3, fun r2 H2 x2 R2 n2 q2 => ?_⟩⟩
    exact P r2 H2 _ R2 (n1.trans F.1 n2) ⟨x1, x2, rfl, q1.nx R1 n2, q2⟩
theorem pas_nil : PA X [] (TrAs cf X.K X.mg .nil) := pa_nil.evI fun σ H Q z => by
  obtain ⟨r, v, M, d, M', F, e, P⟩ := z
  cases e
  exact P r H [] F.1 Nx.rfl' rfl
theorem RAs.back {K : Frg} {mg : Str → Option Value} {r r' r'' : List Addr} {H H' H'' : Hp} {M M' : Mem} (R : Rel K mg r H M) (R' : Rel K mg r' H' M') (n : Nx r H r' H') : ∀ {as : List A} {xs : List V}, RAs K H' r'' H'' as xs → RAs K H r'' H'' as xs
  | [], _, h => h
  | _ :: _, _, ⟨y, ys, e, h, hs⟩ => ⟨y, ys, e, h.back R R' n, RAs.back R R' n hs⟩
theorem pas_cons (ha : CE X cf e ce) (hr : PA X es (TrAs cf X.K X.mg ces)) (hs : starEach (e :: es) X.env = (false, eval e X.env) :: starEach es X.env) : PA X (e :: es) (TrAs cf X.K X.mg (.cons ce ces)) :=
  (pa_cons ha.pe hr hs).evI fun σ H Q z => by
    obtain ⟨r, v, M, d, M', F, e, P⟩ := z
    obtain ⟨x, M1, h1, e1⟩ := bnd_eq e
    obtain ⟨ys, M3, h3, e3⟩ := bnd_eq e1
    cases e3
    refine ⟨r, v, M, x, M1, F, h1, fun r1 H1 x1 R1 n1 q1 => ⟨r1, v, M1, ys, _, F.nx R1 n1, h3, fun r2 H2 x2 R2 n2 q2 => ?_⟩⟩
    exact P r2 H2 _ R2 (n1.trans F.1 n2) ⟨x1, x2, rfl, q1.nx R1 n2, q2.back F.1 R1 n1⟩
theorem ce_tup {x1 : Nat} (h : PA X es (TrDs cf X.K X.mg ces)) : CE X cf (.Tuple es x1 pos) (.tup ces) :=
  CE.of ((pe_tup h).evI fun σ H Q z => by
    obtain ⟨r, v, M, d, M', F, e, P⟩ := z
    obtain ⟨ds, M1, h1, e1⟩ := bnd_eq e
    split at e1
    · rename_i hl
      cases e1
      refine ⟨r, v, M, ds, _, F, h1, fun r1 H1 xs R1 n1 q1 => ⟨?_, fun p hp => ?_⟩⟩
      · rw [← q1.length]; exact Nat.le_trans hl line_le
      · have n2 := Nx.upd (o := .tup xs) R1 hp
        exact P r1 _ _ (R1.upd (R1.off hp) n2) (n1.trans F.1 n2) ⟨p, xs, rfl, upd_same, Nat.le_trans hl line_le, q1.nx R1 n2⟩
    · cases e1) fun _ => rfl
theorem ce_lst (h : PA X es (TrDs cf X.K X.mg ces)) : CE X cf (.List es pos) (.lst ces) :=
  CE.of ((pe_lst h).evI fun σ H Q z => by
    obtain ⟨r, v, M, d, M', F, e, P⟩ := z
    obtain ⟨ds, M1, h1, e1⟩ := bnd_eq e
    split at e1
    · rename_i hl
      cases e1
      refine ⟨r, v, M, ds, _, F, h1, fun r1 H1 xs R1 n1 q1 => ⟨?_, fun p hp => ?_⟩⟩
      · rw [← q1.length]; exact Nat.le_trans hl line_le
      · have n2 := Nx.upd (o := .lst xs) R1 hp
        exact P r1 _ _ (R1.upd (R1.off hp) n2) (n1.trans F.1 n2) ⟨p, xs, rfl, n1.none F.1 R1 hp, R1.off hp, upd_same, Nat.le_trans hl line_le, q1.nx R1 n2⟩
    · cases e1) fun _ => rfl
theorem ce_neg (ha : CE X cf a ca) : CE X cf (.UnaryOp .USub a pos) (.neg ca) :=
  CE.of ((pe_un un_neg ha.pe).evI fun σ H Q z => by
    obtain ⟨r, v, M, d, M', F, e, P⟩ := z
    obtain ⟨x, M1, h1, e1⟩ := bnd_eq e
    refine ⟨r, v, M, x, M1, F, h1, fun r1 H1 x1 R1 n1 q1 => ?_⟩
    split at e1
    · rename_i i
      cases e1
      exact ⟨i, q1, P r1 H1 _ R1 n1 rfl⟩
    · cases e1) fun _ => rfl
/-! ### a place in a row -/
theorem atI_len {α β : Type} {xs : List α} {ys : List β} (h : xs.length = ys.length) {i : Int} {x : α} (e : atI xs i = some x) : ∃ j : Nat, xs[j]? = some x ∧ ∀ y, ys[j]? = some y → atI ys i = some y := by
  unfold atI at e
  cases q : ixN xs.length i with
  | none => rw [q] at e; cases e
  | some j =>
    rw [q] at e
    exact ⟨j, e, fun y hy => by unfold atI; rw [← h, q]; exact hy⟩
theorem RVs.atI {K : Frg} {r : List Addr} {H : Hp} {ds : List D} {vs : List V} (h : RVs K r H ds vs) {i : Int} {d : D} (e : L2.atI ds i = some d) : ∃ x, L2.atI vs i = some x ∧ RV K r H d x := by
  obtain ⟨j, h1, h2⟩ := atI_len h.length e
  obtain ⟨x, h3, h4⟩ := h.get h1
  exact ⟨x, h2 x h3, h4⟩
/-- what is a sequence is one in the heap -/
theorem items_sq {K : Frg} {mg : Str → Option Value} {r : List Addr} {H H0 : Hp} {M : Mem} (R : Rel K mg r H M) {x : A} {y : V} (q : RA K H0 r H x y) {ds : List D} (h : itemsOf M x = some ds) :
    ∃ p vs, y = .ref p ∧ RVs K r H ds vs ∧ ds.length ≤ sizeLine ∧ ((SqL K H p vs ∧ ∀ es, x ≠ .v (.tup es) ∧ x ≠ .v (.xt es)) ∨ (SqT K H p vs ∧ (H p = some (.tup vs) ∧ x = .v (.tup ds) ∨ x = .v (.xt ds)))) := by
  cases x with
  | l es =>
    cases h
    obtain ⟨p, vs, e, _, _, hp, l, s⟩ := q
    exact ⟨p, vs, e, s, l, .inl ⟨SqL.of hp, fun _ => ⟨(fun z => nomatch z), (fun z => nomatch z)⟩⟩⟩
  | v d =>
    cases d with
    | tup es =>
      cases h
      obtain ⟨p, vs, e, hp, l, s⟩ := q
      exact ⟨p, vs, e, s, l, .inr ⟨SqT.of hp, .inl ⟨hp, rfl⟩⟩⟩
    | xt es =>
      cases h
      obtain ⟨p, vs, e, hp, l, s⟩ := q
      exact ⟨p, vs, e, s, l, .inr ⟨hp.sq, .inr rfl⟩⟩
    | fz es =>
      cases h
      obtain ⟨p, vs, e, hp, l, s⟩ := q
      exact ⟨p, vs, e, s, l, .inl ⟨hp.sq, fun _ => ⟨(fun z => nomatch z), (fun z => nomatch z)⟩⟩⟩
    | ref n =>
      have h : (match M[n]? with
        | some (.lst ds) => some ds
        | _ => none) = some ds := h
      split at h
      · rename_i es hm
        cases h
        obtain ⟨p, e, hp⟩ := q
        obtain ⟨p', hp', vs, h1, h2, h3⟩ := R.at hm
        rw [hp] at hp'; cases hp'
        exact ⟨p, vs, e, h3, h2, .inl ⟨SqL.of h1, fun _ => ⟨(fun z => nomatch z), (fun z => nomatch z)⟩⟩⟩
      · cases h
    | non => cases h
    | bl _ => cases h
    | int _ => cases h
    | str _ => cases h
/-! ### dicts -/
theorem kD_inj : ∀ {k l : Key}, kD k = kD l → k = l
  | .inl _, .inl _, h => by rw [D.int.inj h]
  | .inr _, .inr _, h => by rw [D.str.inj h]
  | .inl _, .inr _, h => nomatch h
  | .inr _, .inl _, h => nomatch h
theorem kDs_inj : ∀ {k l : List Key}, k.map kD = l.map kD → k = l
  | [], [], _ => rfl
  | [], _ :: _, h => nomatch h
  | _ :: _, [], h => nomatch h
  | a :: k, b :: l, h => by
    rw [List.map_cons, List.map_cons] at h
    rw [kD_inj (List.cons.inj h).1, kDs_inj (List.cons.inj h).2]
theorem tD_inj {k l : List Key} (h : tD k = tD l) : k = l := kDs_inj (D.tup.inj h)
theorem keyK_of {d : D} (h : isKeyK d = true) : ∃ k, d = kD k := by
  cases d with
  | int i => exact ⟨.inl i, rfl⟩
  | str x => exact ⟨.inr x, rfl⟩
  | _ => cases h
theorem keyKs_of : ∀ {ds : List D}, (ds.all isKeyK) = true → ∃ k : List Key, ds = k.map kD
  | [], _ => ⟨[], rfl⟩
  | d :: ds, h => by
    rw [List.all_cons, Bool.and_eq_true] at h
    obtain ⟨k, rfl⟩ := keyK_of h.1
    obtain ⟨ks, rfl⟩ := keyKs_of h.2
    exact ⟨k :: ks, rfl⟩
theorem key_of {t : Bool} {d : D} (h : isKey t d = true) : (t = false ∧ ∃ k, d = kD k) ∨ (t = true ∧ ∃ k, d = tD k) := by
  cases t with
  | false => exact .inl ⟨rfl, keyK_of h⟩
  | true =>
    cases d with
    | tup ds => obtain ⟨k, rfl⟩ := keyKs_of h; exact .inr ⟨rfl, k, rfl⟩
    | _ => cases h
theorem RV.key {K : Frg} {r : List Addr} {H : Hp} {k : Key} {x : V} (h : RV K r H (kD k) x) : x = kV k := by
  cases k with
  | inl i => exact h
  | inr s => exact h
theorem RVs.keys {K : Frg} {r : List Addr} {H : Hp} : ∀ {k : List Key} {xs : List V}, RVs K r H (k.map kD) xs → xs = k.map kV
  | [], _, h => h
  | k :: ks, _, ⟨v, ws, e, h, hs⟩ => by rw [e, RV.key h, RVs.keys hs]; rfl
theorem dget_rel {κ : Type} [DecidableEq κ] {f : κ → D} (hf : ∀ {a b}, f a = f b → a = b) {K : Frg} {r : List Addr} {H : Hp} {kvs : List (D × D)} {ks : List (κ × V)} (h : Paired (RKV K r H f) kvs ks) (k : κ) :
    (dget kvs (f k) = none ∧ valV ks k = none) ∨ ∃ d x, dget kvs (f k) = some d ∧ valV ks k = some x ∧ RV K r H d x := by
  induction h with
  | nil => exact .inl ⟨rfl, rfl⟩
  | @cons p q ps qs z _ ih =>
    by_cases e : q.1 = k
    · refine .inr ⟨p.2, q.2, ?_, valV_pos e, z.2⟩
      unfold dget
      rw [List.find?_cons_of_pos (by rw [z.1, e]; exact decide_eq_true rfl)]
      rfl
    · have e' : ¬ p.1 = f k := fun w => e (hf (z.1.symm.trans w))
      have g : dget (p :: ps) (f k) = dget ps (f k) := by
        unfold dget
        rw [List.find?_cons_of_neg (by simpa using e')]
      rw [g, valV_neg e]
      exact ih
theorem any_rel {κ : Type} [DecidableEq κ] {f : κ → D} (hf : ∀ {a b}, f a = f b → a = b) {K : Frg} {r : List Addr} {H : Hp} {kvs : List (D × D)} {ks : List (κ × V)} (h : Paired (RKV K r H f) kvs ks) (k : κ) :
    (kvs.any fun kv => decide (kv.1 = f k)) = ks.any fun kv => decide (kv.1 = k) := by
  induction h with
  | nil => rfl
  | @cons p q ps qs z _ ih =>
    rw [List.any_cons, List.any_cons, ih]
    congr 1
    by_cases e : q.1 = k
    · rw [decide_eq_true e, decide_eq_true (z.1.trans (congrArg f e))]
    · rw [decide_eq_false e, decide_eq_false fun w => e (hf (z.1.symm.trans w))]
theorem paired_map {α β γ δ : Type} {F : α → β → Prop} {G : γ → δ → Prop} {g : α → γ} {h : β → δ} (i : ∀ a b, F a b → G (g a) (h b)) {xs : List α} {ys : List β} (p : Paired F xs ys) : Paired G (xs.map g) (ys.map h) := by
  induction p with
  | nil => exact .nil
  | cons q _ ih => exact .cons (i _ _ q) ih
theorem paired_app {α β : Type} {F : α → β → Prop} {xs : List α} {ys : List β} {xs' : List α} {ys' : List β} (p : Paired F xs ys) (q : Paired F xs' ys') : Paired F (xs ++ xs') (ys ++ ys') := by
  induction p with
  | nil => exact q
  | cons z _ ih => exact .cons z ih
theorem dput_rel {κ : Type} [DecidableEq κ] {f : κ → D} (hf : ∀ {a b}, f a = f b → a = b) {K : Frg} {r : List Addr} {H : Hp} {kvs : List (D × D)} {ks : List (κ × V)} (h : Paired (RKV K r H f) kvs ks) (k : κ) {d : D} {x : V} (hv : RV K r H d x) :
    Paired (RKV K r H f) (dput kvs (f k) d) (putK ks k x) := by
  unfold dput putK
  rw [any_rel hf h k]
  split
  · refine paired_map (fun p q z => ?_) h
    by_cases e : q.1 = k
    · rw [if_pos e, if_pos (z.1.trans (congrArg f e))]; exact ⟨z.1, hv⟩
    · rw [if_neg e, if_neg fun w => e (hf (z.1.symm.trans w))]; exact z
  · exact paired_app h (.cons ⟨rfl, hv⟩ .nil)
theorem dput_length (kvs : List (D × D)) (k d : D) : (dput kvs k d).length ≤ kvs.length + 1 := by
  unfold dput
  split
  · rw [List.length_map]; omega
  · simp
/-- a dict's places -/
theorem line_lt' : line + 1 ≤ sizeLine := line_lt
theorem dic_get {K : Frg} {mg : Str → Option Value} {r : List Addr} {H : Hp} {M : Mem} (R : Rel K mg r H M) {n : Nat} {t : Bool} {kvs : List (D × D)} (hm : M[n]? = some (.dic t kvs)) {k : D} {y : V} (hk : isKey t k = true) (hy : RV K r H k y) :
    ∃ p o, r[n]? = some p ∧ IsD H p ∧ DGet H p y o ∧ ((dget kvs k = none ∧ o = none) ∨ ∃ d x, dget kvs k = some d ∧ o = some x ∧ RV K r H d x) := by
  obtain ⟨p, hp, ro⟩ := R.at hm
  rcases key_of hk with ⟨rfl, k', rfl⟩ | ⟨rfl, k', rfl⟩
  · obtain ⟨ks, h1, h2, h3⟩ := ro
    have e := RV.key hy
    subst e
    exact ⟨p, valV ks k', hp, .inl ⟨ks, .inl h1⟩, DGet.k h1, dget_rel kD_inj h3 k'⟩
  · obtain ⟨ks, h1, h2, h3⟩ := ro
    obtain ⟨q, vs, rfl, hq, hl, hs⟩ := hy
    have e := RVs.keys hs
    subst e
    exact ⟨p, valV ks k', hp, .inr ⟨ks, .inl h1⟩, DGet.t h1 hq, dget_rel tD_inj h3 k'⟩
theorem dic_put {K : Frg} {mg : Str → Option Value} {r : List Addr} {H : Hp} {M : Mem} (R : Rel K mg r H M) {n : Nat} {t : Bool} {kvs : List (D × D)} (hm : M[n]? = some (.dic t kvs)) {k d : D} {y x : V} (hk : isKey t k = true) (hy : RV K r H k y) (hd : RV K r H d x) (hl : kvs.length < line) :
    ∃ p H', r[n]? = some p ∧ DPut H p y x H' ∧ Rel K mg r H' (M.set n (.dic t (dput kvs k d))) ∧ Nx r H r H' := by
  obtain ⟨p, hp, ro⟩ := R.at hm
  have hl2 : (dput kvs k d).length ≤ sizeLine := Nat.le_trans (dput_length _ _ _) (Nat.le_trans hl line_le)
  rcases key_of hk with ⟨rfl, k', rfl⟩ | ⟨rfl, k', rfl⟩
  · obtain ⟨ks, h1, h2, h3⟩ := ro
    have e := RV.key hy
    subst e
    have hks : ks.length < sizeLine := by rw [← Paired.length h3]; exact Nat.lt_trans hl line_lt
    have n2 : Nx r H r (L2.upd H p (.dK (putK ks k' x))) := Nx.put hp
    exact ⟨p, _, hp, DPut.k h1 hks, R.put hp ⟨_, upd_same, hl2, Paired.mapP (dput_rel kD_inj h3 k' hd) fun _ _ z => RKV.wk (n2.wk R) z⟩, n2⟩
  · obtain ⟨ks, h1, h2, h3⟩ := ro
    obtain ⟨q, vs, rfl, hq, _, hs⟩ := hy
    have e := RVs.keys hs
    subst e
    have hks : ks.length < sizeLine := by rw [← Paired.length h3]; exact Nat.lt_trans hl line_lt
    have n2 : Nx r H r (L2.upd H p (.dT (putK ks k' x))) := Nx.put hp
    exact ⟨p, _, hp, DPut.t h1 hq hks, R.put hp ⟨_, upd_same, hl2, Paired.mapP (dput_rel tD_inj h3 k' hd) fun _ _ z => RKV.wk (n2.wk R) z⟩, n2⟩
theorem itemsOf_ref {M : Mem} {n : Nat} {ds : List D} (h : M[n]? = some (.lst ds)) : itemsOf M (.v (.ref n)) = some ds := by simp [itemsOf, h]
/-! ### a subscript -/
theorem ce_ix (hu : X.A.units + 1 < cLine) (ha : CE X cf a ca) (hb : CE X cf b cb) (h1 : PlainIx b) (h2 : NoSl b) : CE X cf (.Subscript a b pos) (.ix ca cb) :=
  CE.of (((pe_ix ix_seq ha.pe hb.pe h1).evOr (pe_dget hu ha.pe hb.pe h2)).evI fun σ H Q z => by
    obtain ⟨r, v, M, d, M', F, e, P⟩ := z
    obtain ⟨x, M1, g1, e1⟩ := bnd_eq e
    obtain ⟨y, N2, g2, e2⟩ := bnd_eq e1
    cases y with
    | l _ => cases e2
    | v k =>
      obtain ⟨d', hd, e3⟩ := Option.map_eq_some_iff.mp e2
      obtain ⟨rfl, rfl⟩ := Prod.mk.inj e3
      have sq : ∀ ds i, itemsOf N2 x = some ds → k = .int i → atI ds i = some d' → tOp (rIx X.K) (TrA cf X.K X.mg ca) (TrA cf X.K X.mg cb) σ H Q := fun ds i h1 hk h3 => by
        subst hk
        refine ⟨r, v, M, x, M1, F, g1, fun r1 H1 x1 R1 n1 q1 => ⟨r1, v, M1, _, N2, F.nx R1 n1, g2, fun r2 H2 x2 R2 n2 q2 => ?_⟩⟩
        obtain ⟨p, vs, rfl, s, l, hs⟩ := items_sq R2 (q1.nx R1 n2) h1
        obtain ⟨u, h4, h5⟩ := s.atI h3
        have fin : Q u H2 := ((P.nx F.1 R1 n1).nx R1 R2 n2).at R2 h5
        rcases hs with ⟨hs, _⟩ | ⟨hs, _⟩
        · exact .inl ⟨p, vs, i, u, rfl, q2, hs, h4, fin⟩
        · exact .inr (.inl ⟨p, vs, i, u, rfl, q2, hs, h4, fin⟩)
      unfold ixD at hd
      split at hd
      · rename_i n
        split at hd
        · rename_i ds hm
          split at hd
          · exact .inl (sq ds _ (itemsOf_ref hm) rfl hd)
          · cases hd
        · rename_i t kvs hm
          split at hd
          · rename_i hk
            refine .inr ⟨r, v, M, _, M1, F, g1, fun r1 H1 x1 R1 n1 q1 => ⟨r1, v, M1, _, N2, F.nx R1 n1, g2, fun r2 H2 x2 R2 n2 q2 => ?_⟩⟩
            obtain ⟨a, rfl, ha⟩ := q1.nx R1 n2
            obtain ⟨p, o, hp, _, hg, ho⟩ := dic_get R2 hm hk q2
            rw [ha] at hp; cases hp
            rcases ho with ⟨h, _⟩ | ⟨d2, x2, h, rfl, h3⟩
            · rw [hd] at h; cases h
            · rw [hd] at h; cases h
              exact ⟨a, x2, rfl, hg, ((P.nx F.1 R1 n1).nx R1 R2 n2).at R2 h3⟩
          · cases hd
        · cases hd
      · split at hd
        · rename_i ds hm
          exact .inl (sq ds _ hm rfl hd)
        · cases hd
      · cases hd) fun _ => rfl
end
end Ev
namespace Ev
open PySem PySem.W L2 PyProof.Rows
/-! ### looks at the text -/
def noStar : Expr → Bool
  | .Starred .. => false
  | _ => true
def noSlice : Expr → Bool
  | .Slice .. => false
  | _ => true
def okBase : Expr → Bool
  | .Call (.Name id _) [] [] _ => id != "super"
  | _ => true
theorem star_cons {e : Expr} {es : List Expr} {env : PySem.Env} (h : noStar e = true) : starEach (e :: es) env = (false, eval e env) :: starEach es env := by
  cases e <;> first | rfl | cases h
theorem star_plain {pos : Pos} {env : PySem.Env} : ∀ {es : List Expr}, es.all noStar = true → (backTo pos (starEach es env)).any (·.1) = false
  | [], _ => rfl
  | e :: es, h => by
    rw [List.all_cons, Bool.and_eq_true] at h
    rw [star_cons h.1]
    show (false || (backTo pos (starEach es env)).any (·.1)) = false
    rw [star_plain h.2]; rfl
theorem star_all {pos : Pos} {env : PySem.Env} : ∀ {es : List Expr}, es.all noStar = true → (backTo pos (starEach es env)).all (fun x => !x.1) = true
  | [], _ => rfl
  | e :: es, h => by
    rw [List.all_cons, Bool.and_eq_true] at h
    rw [star_cons h.1]
    show (true && (backTo pos (starEach es env)).all (fun x => !x.1)) = true
    rw [star_all h.2]; rfl
theorem plain_ix {b : Expr} (h : noSlice b = true) : PlainIx b := fun o i => by
  cases b <;> first | rfl | cases h
theorem plain_sl {b : Expr} (h : noSlice b = true) : NoSl b := fun o i => by
  cases b <;> first | rfl | cases h
theorem base_ok {o : Expr} {m : Str} {env : PySem.Env} {w : Sem Value} (h : okBase o = true) : attributeBase o m env w = w := by
  unfold attributeBase
  split
  · rename_i id p pos
    have h : (id != "super") = true := h
    rw [h]
    rfl
  · rfl
/-! ### promises by the evaluator -/
def spF [Tab] (K : Frg) (mg : Str → Option Value) (c : List D → Mem → Option (D × Mem)) : Sp := fun vs H Q _ => ∃ r M ds d M', Rel K mg r H M ∧ RVs K r H ds vs ∧ c ds M = some (d, M') ∧ PoD K mg r H d M' Q
/-- a def that may be called -/
def CallOk [Tab] (X : Cx) (j : Nat) (c : List D → Mem → Option (D × Mem)) (a : Addr) : Prop := ∃ fd ps k, FnOk X.prog X.w X.K X.mg X.base L2.CX0 k a fd ps (spF X.K X.mg c) ∧ Room (k + j) X.A ∧ Binds X.K fd ps []
section
variable [Tab] {X : Cx} {cf : Cf} {e a b c o : Expr} {ca cb cc co ce : E} {es : List Expr} {ces : Es} {pos apos p : Pos} {x : Str}
theorem PE.not {t : TE} (h : ∀ σ H Q, ¬ t σ H Q) : PE X e t := ⟨fun _ _ σ H Q _ z => (h σ H Q z).elim⟩
/-! ### a part of a row -/
structure CO (X : Cx) (cf : Cf) (e : Option Expr) (c : E) : Prop where
  po : PO X e (fun σ H Q => ∃ r v M d M' o, Fr0 X.K X.mg σ H r v M ∧ ev cf c v M = some (.v d, M') ∧ optI d = some o ∧ ∀ r' H', Rel X.K X.mg r' H' M' → Nx r H r' H' → Q o H')
theorem co_none : CO X cf none (.cst .non) := ⟨⟨fun pins s σ H Q I z => by
  obtain ⟨r, v, M, d, M', o, F, e, e2, P⟩ := z
  cases e; cases e2
  exact po_none.run pins s σ H Q I (P r H F.1 Nx.rfl')⟩⟩
theorem co_some (ha : CE X cf a ca) (hn : ∀ v M M', ev cf ca v M ≠ some (.v .non, M')) : CO X cf (some a) ca := ⟨⟨fun pins s σ H Q I z => by
  obtain ⟨r, v, M, d, M', o, F, e, e2, P⟩ := z
  refine (po_some ha.pe).run pins s σ H Q I ⟨r, v, M, _, M', F, e, fun r' H' x R n q => ?_⟩
  unfold optI at e2
  split at e2
  · exact (hn _ _ _ e).elim
  · rename_i i; cases e2; exact ⟨i, q, P r' H' R n⟩
  · cases e2⟩⟩
theorem cut_rel {K : Frg} {r : List Addr} {H : Hp} {ds : List D} {vs : List V} (h : RVs K r H ds vs) (lo hi : Option Int) : RVs K r H (cutD ds lo hi) (cutV vs lo hi) := by
  unfold cutD cutV
  rw [h.length]
  exact RVs.take _ (RVs.drop _ h)
theorem cutD_length (ds : List D) (lo hi : Option Int) : (cutD ds lo hi).length ≤ ds.length := by
  unfold cutD; rw [List.length_take, List.length_drop]; omega
theorem ce_sl {lo hi : Option Expr} {cl ch : E} {p2 : Pos} (ha : CE X cf a ca) (hl : CO X cf lo cl) (hh : CO X cf hi ch) : CE X cf (.Subscript a (.Slice lo hi none p2) pos) (.sl ca cl ch) :=
  CE.of ((pe_slice (sl_list.or sl_tupA) ha.pe hl.po hh.po).evI fun σ H Q z => by
    obtain ⟨r, v, M, d, M', F, e, P⟩ := z
    obtain ⟨x, N1, g1, e1⟩ := bnd_eq e
    obtain ⟨y, N2, g2, e2⟩ := bnd_eq e1
    obtain ⟨w, N3, g3, e3⟩ := bnd_eq e2
    split at e3
    · rename_i l h
      split at e3
      · rename_i ol oh hol hoh
        obtain ⟨x', hx, e4⟩ := Option.map_eq_some_iff.mp e3
        obtain ⟨rfl, rfl⟩ := Prod.mk.inj e4
        refine ⟨r, v, M, x, N1, F, g1, fun r1 H1 x1 R1 n1 q1 => ⟨r1, v, N1, l, N2, ol, F.nx R1 n1, g2, hol, fun r2 H2 R2 n2 => ⟨r2, v, N2, h, N3, oh, (F.nx R1 n1).nx R2 n2, g3, hoh, fun r3 H3 R3 n3 => ?_⟩⟩⟩
        have P3 := ((P.nx F.1 R1 n1).nx R1 R2 n2).nx R2 R3 n3
        have q3 := (q1.nx R1 n2).nx R2 n3
        unfold slA at hx
        split at hx
        · rename_i ds
          cases hx
          obtain ⟨p, vs, rfl, hp, hlen, s⟩ := q3
          refine .inr ⟨p, vs, rfl, SqT.of hp, fun hw => ?_, fun hw q hq => ?_⟩
          · refine P3.at R3 ⟨p, vs, rfl, hp, Nat.le_trans (cutD_length _ _ _) hlen, ?_⟩
            have e := cut_rel s ol oh
            have e2 : cutV vs ol oh = vs := by
              unfold cutV
              rw [hw.1, hw.2, List.drop_zero, Nat.sub_zero, List.take_length]
            rw [e2] at e
            exact e
          · have n4 := Nx.upd (o := .tup (cutV vs ol oh)) R3 hq
            exact P3 r3 _ _ (R3.upd (R3.off hq) n4) n4 ⟨q, _, rfl, upd_same, Nat.le_trans (cutD_length _ _ _) hlen, (cut_rel s ol oh).nx R3 n4⟩
        · cases hx
        · rename_i hnt hnx
          obtain ⟨ds, hds, e5⟩ := Option.map_eq_some_iff.mp hx
          subst e5
          obtain ⟨p, vs, rfl, s, hlen, hs⟩ := items_sq R3 q3 hds
          rcases hs with ⟨hs, _⟩ | ⟨_, ⟨_, hs⟩ | hs⟩
          · refine .inl ⟨p, vs, rfl, hs, fun q hq => ?_⟩
            have n4 := Nx.upd (o := .lst (cutV vs ol oh)) R3 hq
            exact P3 r3 _ _ (R3.upd (R3.off hq) n4) n4 ⟨q, _, rfl, hq, R3.off hq, upd_same, Nat.le_trans (cutD_length _ _ _) hlen, (cut_rel s ol oh).nx R3 n4⟩
          · exact (hnt _ hs).elim
          · exact (hnx _ hs).elim
      · cases e3
    · cases e3) fun _ => rfl
/-! ### attributes -/
theorem nm_inj {f g : Nat} {x : Str} (h1 : Tab.nm[f]? = some x) (h2 : Tab.nm[g]? = some x) : f = g := by
  have a1 := List.getElem?_eq_some_iff.mp h1
  have a2 := List.getElem?_eq_some_iff.mp h2
  obtain ⟨l1, e1⟩ := a1
  obtain ⟨l2, e2⟩ := a2
  exact (List.getElem_inj Tab.nd).mp (e1.trans e2.symm)
theorem RFs.look {K : Frg} {r : List Addr} {H : Hp} {f : Nat} {y : Str} (hy : Tab.nm[f]? = some y) : ∀ {fs : List (Nat × D)} {gs : List (Str × V)}, RFs K r H fs gs → (fs.lookup f = none ∧ gs.lookup y = none) ∨ ∃ d x, fs.lookup f = some d ∧ gs.lookup y = some x ∧ RV K r H d x
  | [], _, h => by cases h; exact .inl ⟨rfl, rfl⟩
  | p :: fs, _, ⟨x, v, hs, ex, e, h, t⟩ => by
    subst e
    by_cases q : f = p.1
    · subst q
      rw [hy] at ex; cases ex
      refine .inr ⟨p.2, v, ?_, ?_, h⟩
      · obtain ⟨p1, p2⟩ := p
        simp [List.lookup_cons]
      · simp [List.lookup_cons]
    · have q2 : ¬ y = x := fun w => q (nm_inj hy (w ▸ ex))
      have e1 : (p :: fs).lookup f = fs.lookup f := by
        obtain ⟨p1, p2⟩ := p
        have : (f == p1) = false := by simpa using q
        simp [List.lookup_cons, this]
      have e2 : ((x, v) :: hs).lookup y = hs.lookup y := by
        have : (y == x) = false := by simpa using q2
        simp [List.lookup_cons, this]
      rw [e1, e2]
      exact RFs.look hy t
theorem RFs.put {K : Frg} {r : List Addr} {H : Hp} {f : Nat} {y : Str} (hy : Tab.nm[f]? = some y) {d : D} {x : V} (hd : RV K r H d x) : ∀ {fs : List (Nat × D)} {gs : List (Str × V)}, RFs K r H fs gs → RFs K r H (putFs f d fs) (putF y x gs)
  | [], _, h => by cases h; exact ⟨y, x, [], hy, rfl, hd, rfl⟩
  | p :: fs, _, ⟨x', v, hs, ex, e, h, t⟩ => by
    subst e
    by_cases q : p.1 = f
    · have e1 : putFs f d (p :: fs) = (f, d) :: fs := by show (if p.1 = f then _ else _) = _; rw [if_pos q]
      have e2 : putF y x ((x', v) :: hs) = (y, x) :: hs := by
        show (if x' = y then _ else _) = _
        rw [if_pos (by rw [q, hy] at ex; cases ex; rfl)]
        rw [q, hy] at ex; cases ex; rfl
      rw [e1, e2]
      exact ⟨y, x, hs, hy, rfl, hd, t⟩
    · have e1 : putFs f d (p :: fs) = p :: putFs f d fs := by show (if p.1 = f then _ else _) = _; rw [if_neg q]
      have e2 : putF y x ((x', v) :: hs) = (x', v) :: putF y x hs := by
        show (if x' = y then _ else _) = _
        rw [if_neg (show ¬ x' = y by intro w; subst w; exact q (nm_inj ex hy))]
      rw [e1, e2]
      exact ⟨x', v, _, ex, rfl, h, RFs.put hy hd t⟩
theorem RFs.length {K : Frg} {r : List Addr} {H : Hp} : ∀ {fs : List (Nat × D)} {gs : List (Str × V)}, RFs K r H fs gs → fs.length = gs.length
  | [], _, h => by cases h; rfl
  | _ :: _, _, ⟨x, v, hs, ex, e, h, t⟩ => by subst e; simp [RFs.length t]
theorem ce_fld {f : Nat} {y : Str} (ha : CE X cf a ca) (hy : Tab.nm[f]? = some y) (hb : okBase a = true) : CE X cf (.Attribute a y pos) (.fld ca f) :=
  CE.of ((pe_fld ha.pe (base_ok hb)).evI fun σ H Q z => by
    obtain ⟨r, v, M, d, M', F, e, P⟩ := z
    obtain ⟨x, N1, g1, e1⟩ := bnd_eq e
    refine ⟨r, v, M, x, N1, F, g1, fun r1 H1 x1 R1 n1 q1 => ?_⟩
    split at e1
    · rename_i d'
      obtain ⟨u, hu, e2⟩ := Option.map_eq_some_iff.mp e1
      obtain ⟨rfl, rfl⟩ := Prod.mk.inj e2
      unfold getF at hu
      split at hu
      · rename_i n
        split at hu
        · rename_i C fs hm
          split at hu
          · rename_i hC
            obtain ⟨p, rfl, hp⟩ := q1
            obtain ⟨p', hp', x, c, dx, gs, ⟨g1, g2, g3, g4⟩, h1, h2⟩ := R1.at hm
            rw [hp] at hp'; cases hp'
            rcases h2.look hy with ⟨h, _⟩ | ⟨d2, x2, h, h', h3⟩
            · rw [hu] at h; cases h
            · rw [hu] at h; cases h
              exact ⟨p, c, dx, gs, x2, rfl, h1, g3, g4 f y hC hy, h', (P.nx F.1 R1 n1).at R1 h3⟩
          · cases hu
        · cases hu
      · cases hu
    · cases e1) fun _ => rfl
/-! ### calls of the text's own -/
theorem call_post {K : Frg} {mg : Str → Option Value} {r : List Addr} {H : Hp} {d : D} {M : Mem} {Q : V → Hp → Prop} (P : PoA K mg r H (.v d) M Q) : PoD K mg r H d M Q := fun r' H' x R n q => P r' H' x R n q
theorem ce_call {f : Nat} (hf : ∀ ds M z, cf.call f ds M = some z → ∃ g, X.mg x = some (.ref g) ∧ PySem.W.keepIn X.K (.ref g) = true ∧ CallOk X 0 (cf.call f) g) (hg : Gl X x) (hdb : (x == ("__debug__" : Str)) = false)
    (h : PA X es (TrDs cf X.K X.mg ces)) (hs : es.all noStar = true) (hz : es = [] → ces = .nil) : CE X cf (.Call (.Name x p) es [] pos) (.call f ces) := by
  refine CE.of ?_ fun _ => rfl
  by_cases q : ∃ ds M z, cf.call f ds M = some z
  · obtain ⟨ds, M, z, q⟩ := q
    obtain ⟨g, hm, hk, fd, ps, k, F, hr, hb⟩ := hf ds M z q
    have go : ∀ σ H Q, TrA cf X.K X.mg (.call f ces) σ H Q → tCall (spF X.K X.mg (cf.call f)) [] L2.E0 (TrDs cf X.K X.mg ces) σ H Q := fun σ H Q z => by
      obtain ⟨r, v, M, d, M', F, e, P⟩ := z
      obtain ⟨ds, N1, g1, e1⟩ := bnd_eq e
      obtain ⟨d', N2, g2, e2⟩ := bnd_eq e1
      obtain ⟨rfl, rfl⟩ := Prod.mk.inj (Option.some.inj e2)
      refine ⟨r, v, M, ds, N1, F, g1, fun r1 H1 xs R1 n1 q1 => ⟨r1, N1, ds, d', N2, R1, by rw [List.append_nil]; exact q1, g2, call_post (P.nx F.1 R1 n1)⟩⟩
    cases es with
    | nil =>
      refine PE.evI (t := tCall (spF X.K X.mg (cf.call f)) [] L2.E0 tNil) (pe_call0 F hr hg hm hk hb .nil pass0 hdb) fun σ H Q z => ?_
      cases hz rfl
      obtain ⟨r, v, M, d, M', F, e, P⟩ := go σ H Q z
      cases e
      exact P r H [] F.1 Nx.rfl' rfl
    | cons e es =>
      rw [List.all_cons, Bool.and_eq_true] at hs
      exact PE.evI (pe_call F hr hg hm hk hb .nil pass0 h hdb (star_cons hs.1) (star_plain hs.2)) go
  · refine PE.not fun σ H Q z => ?_
    obtain ⟨r, v, M, d, M', F, e, P⟩ := z
    obtain ⟨ds, N1, g1, e1⟩ := bnd_eq e
    obtain ⟨d', N2, g2, e2⟩ := bnd_eq e1
    exact q ⟨_, _, _, g2⟩
/-- a new thing of a class -/
theorem Rel.make {K : Frg} {mg : Str → Option Value} {r : List Addr} {H : Hp} {M : Mem} (R : Rel K mg r H M) {C : Nat} {x : Str} {c p dx : Addr} (hC : Tab.cn[C]? = some x ∧ mg x = some (.ref c) ∧ Cls K c ∧ ∀ f y, (C, f) ∈ Tab.fl → Tab.nm[f]? = some y → NoAttr K c y)
    (hp : H p = none) (hd : H dx = none) (hn : dx ≠ p) : Rel K mg (r ++ [p]) (L2.upd (L2.upd H dx (.own p)) p (.ins c dx [])) (M ++ [.ins C []]) ∧ Nx r H (r ++ [p]) (L2.upd (L2.upd H dx (.own p)) p (.ins c dx [])) := by
  have n1 := Nx.upd (o := .own p) R hd
  have R1 := R.upd (R.off hd) n1
  have hp1 : (L2.upd H dx (.own p)) p = none := by rw [upd_ne (Ne.symm hn)]; exact hp
  have n2 := Nx.add (o := .ins c dx []) R1 hp1
  exact ⟨R1.add hp1 n2 ⟨x, c, dx, [], hC, upd_same, rfl⟩, n1.trans R n2⟩
theorem ce_mk {C : Nat} (hf : ∀ ds M z, cf.init C ds M = some z → ∃ c g, (Tab.cn[C]? = some x ∧ X.mg x = some (.ref c) ∧ Cls X.K c ∧ ∀ f y, (C, f) ∈ Tab.fl → Tab.nm[f]? = some y → NoAttr X.K c y) ∧ Mk X.K c g ∧ CallOk X 1 (cf.init C) g)
    (hg : Gl X x) (hdb : (x == ("__debug__" : Str)) = false)
    (h : PA X es (TrDs cf X.K X.mg ces)) (hs : es.all noStar = true) (hz : es = [] → ces = .nil) : CE X cf (.Call (.Name x p) es [] pos) (.mk C ces) := by
  refine CE.of ?_ fun _ => rfl
  by_cases q : ∃ ds M z, cf.init C ds M = some z
  · obtain ⟨ds, M, z, q⟩ := q
    obtain ⟨c, g, hC, hmk, fd, ps, k, F, hr, hb⟩ := hf ds M z q
    have go : ∀ σ H Q, TrA cf X.K X.mg (.mk C ces) σ H Q → tMake c (spF X.K X.mg (cf.init C)) [] L2.E0 (TrDs cf X.K X.mg ces) σ H Q := fun σ H Q z => by
      obtain ⟨r, v, M, d, M', F, e, P⟩ := z
      obtain ⟨ds, N1, g1, e1⟩ := bnd_eq e
      obtain ⟨d', N2, g2, e2⟩ := bnd_eq e1
      split at e2
      · rename_i hd
        subst hd
        obtain ⟨rfl, rfl⟩ := Prod.mk.inj (Option.some.inj e2)
        refine ⟨r, v, M, ds, N1, F, g1, fun r1 H1 xs R1 n1 q1 y dx hy hdx hne => ?_⟩
        obtain ⟨R2, n2⟩ := R1.make hC hy hdx hne
        refine ⟨r1 ++ [y], _, _, _, _, R2, ?_, g2, fun r3 H3 z3 R3 n3 q3 => ⟨q3, ?_⟩⟩
        · rw [List.append_nil]
          exact ⟨.ref y, xs, rfl, ⟨y, rfl, by rw [← R1.len, List.getElem?_append_right (Nat.le_refl _), Nat.sub_self]; rfl⟩, q1.nx R1 n2⟩
        · refine P r3 H3 _ R3 ((n1.trans F.1 n2).trans F.1 n3) ⟨y, rfl, n3.get ?_⟩
          rw [← R1.len, List.getElem?_append_right (Nat.le_refl _), Nat.sub_self]; rfl
      · cases e2
    cases es with
    | nil =>
      refine PE.evI (t := tMake c (spF X.K X.mg (cf.init C)) [] L2.E0 tNil) (pe_make0 hmk F hr hg hC.2.1 hb .nil pass0 hdb) fun σ H Q z => ?_
      cases hz rfl
      obtain ⟨r, v, M, d, M', F, e, P⟩ := go σ H Q z
      cases e
      exact P r H [] F.1 Nx.rfl' rfl
    | cons e es =>
      rw [List.all_cons, Bool.and_eq_true] at hs
      exact PE.evI (pe_make hmk F hr hg hC.2.1 hb .nil pass0 h hdb (star_cons hs.1) (star_plain hs.2)) go
  · refine PE.not fun σ H Q z => ?_
    obtain ⟨r, v, M, d, M', F, e, P⟩ := z
    obtain ⟨ds, N1, g1, e1⟩ := bnd_eq e
    obtain ⟨d', N2, g2, e2⟩ := bnd_eq e1
    exact q ⟨_, _, _, g2⟩
end
end Ev
namespace Ev
open PySem PySem.W L2 PyProof.Rows
theorem meth_few {es : List Expr} {env : PySem.Env} {pos : Pos} (hs : es.all noStar = true) (hl : es.length < 30) : methodCallForm (es.length + ([] : List Keyword).length) (backTo pos (starEach es env)) (backToKw pos (keywordEach [] env)) = true := by
  unfold methodCallForm
  rw [star_all hs]
  show (true && true && decide (es.length + 0 + 0 < 30)) = true
  rw [decide_eq_true (show es.length + 0 + 0 < 30 by omega)]
  rfl
theorem meth_ht {o : Expr} {m : Str} {apos pos : Pos} {es : List Expr} {env : PySem.Env} (hb : okBase o = true) (hs : es.all noStar = true) (hl : es.length < 30) (hline : (apos.endLine == pos.line) = true) :
    eval (.Call (.Attribute o m apos) es [] pos) env = (do
      let ov ← eval o env
      standAt apos.atName
      let (f, first) ← holding [ov] (getMethod ov m (do return (← importBound o env).getD true))
      callWith pos f first (backTo pos (starEach es env)) (backToKw pos (keywordEach [] env))) := by
  show (do
    let ov ← attributeBase o m env (eval o env)
    standAt apos.atName
    methodCall o m apos pos env ov (es.length + ([] : List Keyword).length) (backTo pos (starEach es env)) (backToKw pos (keywordEach [] env))) = _
  rw [base_ok hb]
  unfold methodCall calleeOf methodCallPos
  rw [meth_few hs hl, hline]
  rfl
section
variable [Tab] {X : Cx} {cf : Cf} {e a b c o : Expr} {ca cb cc co ce : E} {es : List Expr} {ces : Es} {pos apos p : Pos} {x : Str}
/-- what a method of one's own asks -/
def MethFact (X : Cx) (cf : Cf) (m : Nat) (y : Str) : Prop := ∀ C f, Tab.mt.lookup (C, m) = some f → ∀ ds M z, cf.call f ds M = some z → ∃ x c g, Tab.cn[C]? = some x ∧ X.mg x = some (.ref c) ∧ Cls X.K c ∧ Meth X.K c y g ∧ CallOk X 0 (cf.call f) g
def tOr {ι : Sort _} (t : ι → TE) : TE := fun σ H Q => ∃ i, t i σ H Q
theorem PE.evAny {ι : Sort _} {t : ι → TE} (h : ∀ i, PE X e (t i)) : PE X e (tOr t) := ⟨fun pins s σ H Q I z => let ⟨i, z⟩ := z; (h i).run pins s σ H Q I z⟩
/-- a method of a class of one's own -/
def tOwn (X : Cx) (cf : Cf) (co : E) (m : Nat) (es : Es) : TE := fun σ H Q => ∃ r v M n C fs f M1 ds M2 d M3, Fr0 X.K X.mg σ H r v M ∧ ev cf co v M = some (.v (.ref n), M1) ∧ M1[n]? = some (.ins C fs) ∧ (fs.lookup m).isNone = true ∧ Tab.mt.lookup (C, m) = some f ∧
  evs cf es v M1 = some (ds, M2) ∧ cf.call f (.ref n :: ds) M2 = some (d, M3) ∧ PoA X.K X.mg r H (.v d) M3 Q
theorem pe_own {m : Nat} {y : Str} (hy : Tab.nm[m]? = some y) (hf : MethFact X cf m y) (ha : CE X cf o co) (h : PA X es (TrDs cf X.K X.mg ces)) (hb : okBase o = true) (hs : es.all noStar = true) (hz : es = [] → ces = .nil) (hl : es.length < 30) (hline : (apos.endLine == pos.line) = true) :
    PE X (.Call (.Attribute o y apos) es [] pos) (tOwn X cf co m ces) := by
  -- for each class and its def
  have one : ∀ C f x c g, Tab.mt.lookup (C, m) = some f → Tab.cn[C]? = some x → X.mg x = some (.ref c) → Cls X.K c → Meth X.K c y g → CallOk X 0 (cf.call f) g →
      PE X (.Call (.Attribute o y apos) es [] pos) (fun σ H Q => ∃ r v M n fs M1 ds M2 d M3, Fr0 X.K X.mg σ H r v M ∧ ev cf co v M = some (.v (.ref n), M1) ∧ M1[n]? = some (.ins C fs) ∧ (fs.lookup m).isNone = true ∧
        evs cf ces v M1 = some (ds, M2) ∧ cf.call f (.ref n :: ds) M2 = some (d, M3) ∧ PoA X.K X.mg r H (.v d) M3 Q) := fun C f x c g hm hx hc hC hg ⟨fd, ps, k, F, hr, hbn⟩ => by
    have go : ∀ σ H Q, (∃ r v M n fs M1 ds M2 d M3, Fr0 X.K X.mg σ H r v M ∧ ev cf co v M = some (.v (.ref n), M1) ∧ M1[n]? = some (.ins C fs) ∧ (fs.lookup m).isNone = true ∧
        evs cf ces v M1 = some (ds, M2) ∧ cf.call f (.ref n :: ds) M2 = some (d, M3) ∧ PoA X.K X.mg r H (.v d) M3 Q) → tMeth c y (spF X.K X.mg (cf.call f)) [] L2.E0 (TrA cf X.K X.mg co) (TrDs cf X.K X.mg ces) σ H Q := fun σ H Q z => by
      obtain ⟨r, v, M, n, fs, M1, ds, M2, d, M3, F0, g1, hi, hnone, g2, g3, P⟩ := z
      refine ⟨r, v, M, _, M1, F0, g1, fun r1 H1 x1 R1 n1 q1 => ?_⟩
      obtain ⟨p, rfl, hp⟩ := q1
      obtain ⟨p', hp', x', c', dx, gs, ⟨k1, k2, k3, k4⟩, h1, h2⟩ := R1.at hi
      rw [hp] at hp'; cases hp'
      rw [hx] at k1; cases k1
      rw [hc] at k2; cases k2
      refine ⟨p, dx, gs, rfl, h1, ?_, r1, v, M1, ds, M2, F0.nx R1 n1, g2, fun r2 H2 x2 R2 n2 q2 => ?_⟩
      · rcases h2.look hy with ⟨_, h⟩ | ⟨d2, x2, h, _, _⟩
        · exact h
        · rw [h] at hnone; cases hnone
      · show spF X.K X.mg (cf.call f) (V.ref p :: (x2 ++ [])) H2 Q L2.E0
        rw [List.append_nil]
        exact ⟨r2, M2, .ref n :: ds, d, M3, R2, ⟨.ref p, x2, rfl, ⟨p, rfl, n2.get hp⟩, q2⟩, g3, call_post ((P.nx F0.1 R1 n1).nx R1 R2 n2)⟩
    cases es with
    | nil =>
      refine PE.evI (t := tMeth c y (spF X.K X.mg (cf.call f)) [] L2.E0 (TrA cf X.K X.mg co) tNil) (pe_meth0 (pl := _) ha.pe hC hg F hr hbn .nil pass0 (meth_ht hb hs hl hline)) fun σ H Q z => ?_
      cases hz rfl
      obtain ⟨r, v, M, d, M1, F0, g1, h⟩ := go σ H Q z
      refine ⟨r, v, M, d, M1, F0, g1, fun r1 H1 x1 R1 n1 q1 => ?_⟩
      obtain ⟨p, dx, gs, h1, h2, h3, r2, v2, M2, ds, M3, F2, e2, P2⟩ := h r1 H1 x1 R1 n1 q1
      cases e2
      exact ⟨p, dx, gs, h1, h2, h3, P2 r2 H1 [] F2.1 Nx.rfl' rfl⟩
    | cons e es =>
      have hs' := hs
      rw [List.all_cons, Bool.and_eq_true] at hs'
      exact PE.evI (pe_meth (pl := _) ha.pe hC hg F hr hbn .nil pass0 h (star_cons hs'.1) (star_plain hs'.2) (meth_ht hb hs hl hline)) go
  refine PE.evI (PE.evAny (ι := { q : Nat × Nat × Str × Addr × Addr // Tab.mt.lookup (q.1, m) = some q.2.1 ∧ Tab.cn[q.1]? = some q.2.2.1 ∧ X.mg q.2.2.1 = some (.ref q.2.2.2.1) ∧ Cls X.K q.2.2.2.1 ∧ Meth X.K q.2.2.2.1 y q.2.2.2.2 ∧ CallOk X 0 (cf.call q.2.1) q.2.2.2.2 })
    (fun i => one i.1.1 i.1.2.1 i.1.2.2.1 i.1.2.2.2.1 i.1.2.2.2.2 i.2.1 i.2.2.1 i.2.2.2.1 i.2.2.2.2.1 i.2.2.2.2.2.1 i.2.2.2.2.2.2)) fun σ H Q z => ?_
  obtain ⟨r, v, M, n, C, fs, f, M1, ds, M2, d, M3, F0, g1, hi, hnone, hm, g2, g3, P⟩ := z
  obtain ⟨x, c, g, k1, k2, k3, k4, k5⟩ := hf C f hm _ _ _ g3
  exact ⟨⟨⟨C, f, x, c, g⟩, hm, k1, k2, k3, k4, k5⟩, r, v, M, n, fs, M1, ds, M2, d, M3, F0, g1, hi, hnone, g2, g3, P⟩
/-- a method of a built-in type, by what it does -/
def tBlt (X : Cx) (cf : Cf) (co : E) (b : BM) (es : Es) : TE := fun σ H Q => ∃ r v M n u M1 as M2 u2 d M3, Fr0 X.K X.mg σ H r v M ∧ ev cf co v M = some (.v (.ref n), M1) ∧ M1[n]? = some u ∧ (∀ C fs, u ≠ .ins C fs) ∧
  evas cf es v M1 = some (as, M2) ∧ M2[n]? = some u2 ∧ kindM u2 = kindM u ∧ bmA n u2 b as M2 = some (d, M3) ∧ PoA X.K X.mg r H d M3 Q
theorem ce_meth {m : Option Nat} {b : Option BM} {y : Str} (hown : ∀ m', m = some m' → PE X (.Call (.Attribute o y apos) es [] pos) (tOwn X cf co m' ces)) (hblt : ∀ b', b = some b' → PE X (.Call (.Attribute o y apos) es [] pos) (tBlt X cf co b' ces)) :
    CE X cf (.Call (.Attribute o y apos) es [] pos) (.meth co m b ces) :=
  CE.of ((PE.evOr (PE.evAny (ι := { m' : Nat // m = some m' }) fun i => hown i.1 i.2) (PE.evAny (ι := { b' : BM // b = some b' }) fun i => hblt i.1 i.2)).evI fun σ H Q z => by
    obtain ⟨r, v, M, d, M', F, e, P⟩ := z
    obtain ⟨x, N1, g1, e1⟩ := bnd_eq e
    split at e1
    · rename_i n
      split at e1
      · rename_i C fs hi
        split at e1
        · rename_i m'
          split at e1
          · rename_i hnone
            split at e1
            · rename_i f hm
              obtain ⟨ds, N2, g2, e2⟩ := bnd_eq e1
              obtain ⟨d', N3, g3, e3⟩ := bnd_eq e2
              obtain ⟨rfl, rfl⟩ := Prod.mk.inj (Option.some.inj e3)
              exact .inl ⟨⟨m', rfl⟩, r, v, M, n, C, fs, f, N1, ds, N2, d', N3, F, g1, hi, hnone, hm, g2, g3, P⟩
            · cases e1
          · cases e1
        · cases e1
      · rename_i u hu hi
        split at e1
        · rename_i b'
          obtain ⟨as, N2, g2, e2⟩ := bnd_eq e1
          split at e2
          · rename_i u2 hu2
            split at e2
            · rename_i hk
              rw [hi] at hk
              exact .inr ⟨⟨b', rfl⟩, r, v, M, n, u, N1, as, N2, u2, d, M', F, g1, hi, (fun C fs w => by subst w; exact hu _ _ rfl), g2, hu2, Option.some.inj hk, e2, P⟩
            · cases e2
          · cases e2
        · cases e1
      · cases e1
    · cases e1) fun _ => rfl
end
end Ev
namespace Ev
open PySem PySem.W L2 PyProof.Rows
/-! ### pure data as the model reads it -/
mutual
theorem RV.dp {K : Frg} {r : List Addr} {H : Hp} : ∀ {d : D} {x : V}, RV K r H d x → d.pure = true → Dp K H x d.py
  | .non, _, h, _ => by cases h; exact .non
  | .bl b, _, h, _ => by cases h; exact .bl b
  | .int i, _, h, _ => by cases h; exact .int i
  | .str x, _, h, _ => by cases h; exact .str x
  | .tup ds, _, ⟨a, vs, e, q, l, s⟩, z => by subst e; exact .tup (SqT.of q) (RVs.dp s z)
  | .fz ds, _, ⟨a, vs, e, q, l, s⟩, z => by subst e; exact .lst q.sq (RVs.dp s z)
  | .xt ds, _, ⟨a, vs, e, q, l, s⟩, z => by subst e; exact .tup q.sq (RVs.dp s z)
  | .ref _, _, _, z => nomatch z
theorem RVs.dp {K : Frg} {r : List Addr} {H : Hp} : ∀ {ds : List D} {xs : List V}, RVs K r H ds xs → D.pures ds = true → DpAll K H xs (D.pys ds)
  | [], _, h, _ => by cases h; exact .nil
  | d :: ds, _, ⟨v, ws, e, h, hs⟩, z => by
    subst e
    have z' : (d.pure && D.pures ds) = true := z
    rw [Bool.and_eq_true] at z'
    exact .cons (RV.dp h z'.1) (RVs.dp hs z'.2)
end
section
variable [Tab] {K : Frg} {mg : Str → Option Value} {r : List Addr} {H H0 : Hp} {M : Mem}
theorem RA.dp (R : Rel K mg r H M) {a : A} {x : V} (q : RA K H0 r H a x) {p : PyData} (h : pyOf M a = some p) : Dp K H x p := by
  cases a with
  | l ds =>
    have h : (if D.pures ds = true then some (PyData.list (D.pys ds)) else none) = some p := h
    split at h
    · rename_i hp
      cases h
      obtain ⟨p, vs, rfl, _, _, e, l, s⟩ := q
      exact .lst (SqL.of e) (s.dp hp)
    · cases h
  | v d =>
    cases d with
    | ref n =>
      have h : (match M[n]? with
        | some (.lst ds) => if D.pures ds = true then some (PyData.list (D.pys ds)) else none
        | _ => none) = some p := h
      split at h
      · rename_i ds hm
        split at h
        · rename_i hp
          cases h
          obtain ⟨p, rfl, hr⟩ := q
          obtain ⟨p', hp', vs, h1, h2, h3⟩ := R.at hm
          rw [hr] at hp'; cases hp'
          exact .lst (SqL.of h1) (h3.dp hp)
        · cases h
      · cases h
    | _ =>
      unfold pyOf at h
      simp only at h
      split at h
      · rename_i hp
        cases h
        exact RV.dp (r := r) q hp
      · cases h
end
/-! ### the built-ins -/
section
variable [Tab] {X : Cx}
theorem OpR.evOr {f : Value → Value → Sem Value} {q q' : R2} (h : OpR X f q) (h' : OpR X f q') : OpR X f (fun x y H Q => q x y H Q ∨ q' x y H Q) := h.or h'
def RBi (K : Frg) (mg : Str → Option Value) (f : BI) : List V → Hp → VK → Prop := fun xs H Q => ∃ r M as c M' H0, Rel K mg r H M ∧ RAs K H0 r H as xs ∧ biA f as M = some (c, M') ∧ PoA K mg r H c M' Q
theorem _root_.L2.CallR.evI {f : Value} {q q' : List V → Hp → VK → Prop} (h : CallR X f q) (i : ∀ xs H Q, q' xs H Q → q xs H Q) : CallR X f q' := fun pins s σ H xs us Q I r z => h pins s σ H xs us Q I r (i _ _ _ z)
theorem RAs.one {K : Frg} {H0 : Hp} {r : List Addr} {H : Hp} {a : A} {xs : List V} (h : RAs K H0 r H [a] xs) : ∃ x, xs = [x] ∧ RA K H0 r H a x := by
  obtain ⟨y, ys, e, h, hs⟩ := h
  have hs : ys = [] := hs
  subst hs
  exact ⟨y, e, h⟩
theorem RAs.two {K : Frg} {H0 : Hp} {r : List Addr} {H : Hp} {a b : A} {xs : List V} (h : RAs K H0 r H [a, b] xs) : ∃ x y, xs = [x, y] ∧ RA K H0 r H a x ∧ RA K H0 r H b y := by
  obtain ⟨y, ys, e, h, hs⟩ := h
  obtain ⟨x, e2, h2⟩ := RAs.one hs
  subst e2
  exact ⟨y, x, e, h, h2⟩
theorem un1_eq {g : A → Mem → Option (A × Mem)} {as : List A} {M : Mem} {z : A × Mem} (h : un1 g as M = some z) : ∃ a, as = [a] ∧ g a M = some z := by
  match as, h with
  | [], h => cases h
  | [a], h => exact ⟨a, rfl, h⟩
  | _ :: _ :: _, h => cases h
theorem un2_eq {g : A → A → Mem → Option (A × Mem)} {as : List A} {M : Mem} {z : A × Mem} (h : un2 g as M = some z) : ∃ a b, as = [a, b] ∧ g a b M = some z := by
  match as, h with
  | [], h => cases h
  | [_], h => cases h
  | [a, b], h => exact ⟨a, b, rfl, h⟩
  | _ :: _ :: _ :: _, h => cases h
theorem bi_len : CallR X (.builtin "len") (RBi X.K X.mg .len) := by
  refine ((call_len.or call_lenD).or call_len_dT).evI fun xs H Q z => ?_
  obtain ⟨r, M, as, c, M', H0, R, ra, e, P⟩ := z
  obtain ⟨a, rfl, e1⟩ := un1_eq e
  obtain ⟨n, hn, e2⟩ := Option.map_eq_some_iff.mp e1
  obtain ⟨rfl, rfl⟩ := Prod.mk.inj e2
  obtain ⟨x, rfl, q⟩ := ra.one
  have fin : Q (.int n) H := P.at R rfl
  have sq : itemsOf M a = some (List.replicate n .non) → True := fun _ => trivial
  have hsq : ∀ ds, itemsOf M a = some ds → ds.length = n → ∃ x' n', [x] = [x'] ∧ LenV X.K x' H n' ∧ Q (.int n') H := fun ds h hl => by
    obtain ⟨p, vs, rfl, s, l, hs⟩ := items_sq R q h
    refine ⟨_, n, rfl, ?_, fin⟩
    rw [← hl, s.length]
    rcases hs with ⟨hs, _⟩ | ⟨hs, _⟩
    · exact .inl ⟨vs, hs, rfl⟩
    · exact .inr ⟨vs, hs, rfl⟩
  unfold lenOf at hn
  split at hn
  · rename_i y
    split at hn
    · rename_i hl
      cases hn
      cases q
      exact .inl (.inl ⟨_, _, rfl, ⟨Nat.le_trans hl line_le, rfl⟩, fin⟩)
    · cases hn
  · rename_i m
    split at hn
    · rename_i ds hm
      cases hn
      exact .inl (.inl (hsq ds (itemsOf_ref hm) rfl))
    · rename_i t kvs hm
      cases hn
      obtain ⟨p, rfl, hp⟩ := q
      obtain ⟨p', hp', ro⟩ := R.at hm
      rw [hp] at hp'; cases hp'
      cases t with
      | false =>
        obtain ⟨ks, h1, h2, h3⟩ := ro
        exact .inl (.inr ⟨p, ks, rfl, h1, by rw [← Paired.length h3]; exact fin⟩)
      | true =>
        obtain ⟨ks, h1, h2, h3⟩ := ro
        exact .inr ⟨p, ks, rfl, h1, by rw [← Paired.length h3]; exact fin⟩
    · cases hn
  · obtain ⟨ds, h1, h2⟩ := Option.map_eq_some_iff.mp hn
    exact .inl (.inl (hsq ds h1 h2))
theorem bi_tuple : CallR X (.type "tuple") (RBi X.K X.mg .tuple) := by
  refine call_tuple_of.evI fun xs H Q z => ?_
  obtain ⟨r, M, as, c, M', H0, R, ra, e, P⟩ := z
  obtain ⟨a, rfl, e1⟩ := un1_eq e
  unfold biTuple at e1
  split at e1
  · rename_i ds
    obtain ⟨rfl, rfl⟩ := Prod.mk.inj (Option.some.inj e1)
    obtain ⟨x, rfl, q⟩ := ra.one
    obtain ⟨p, vs, rfl, hp, l, s⟩ := q
    exact ⟨p, vs, rfl, .inr ⟨hp.sq, P.at R ⟨p, vs, rfl, hp, l, s⟩⟩⟩
  rename_i hnx
  obtain ⟨ds, hn, e2⟩ := Option.map_eq_some_iff.mp e1
  obtain ⟨rfl, rfl⟩ := Prod.mk.inj e2
  obtain ⟨x, rfl, q⟩ := ra.one
  obtain ⟨p, vs, rfl, s, l, hs⟩ := items_sq R q hn
  refine ⟨p, vs, rfl, ?_⟩
  rcases hs with ⟨hs, _⟩ | ⟨_, ⟨hs, _⟩ | hs⟩
  · refine .inl ⟨hs, fun y hy => ?_⟩
    have n2 := Nx.upd (o := .tup vs) R hy
    exact P r _ _ (R.upd (R.off hy) n2) n2 ⟨y, vs, rfl, upd_same, l, s.nx R n2⟩
  · exact .inr ⟨SqT.of hs, P.at R ⟨p, vs, rfl, hs, l, s⟩⟩
  · exact (hnx _ hs).elim
theorem bi_list : CallR X (.type "list") (RBi X.K X.mg .list) := by
  refine call_list_of.evI fun xs H Q z => ?_
  obtain ⟨r, M, as, c, M', H0, R, ra, e, P⟩ := z
  obtain ⟨a, rfl, e1⟩ := un1_eq e
  obtain ⟨ds, hn, e2⟩ := Option.map_eq_some_iff.mp e1
  obtain ⟨rfl, rfl⟩ := Prod.mk.inj e2
  obtain ⟨x, rfl, q⟩ := ra.one
  obtain ⟨p, vs, rfl, s, l, hs⟩ := items_sq R q hn
  refine ⟨p, vs, rfl, hs.imp (fun h => h.1) (fun h => h.1), fun y hy => ?_⟩
  have n2 := Nx.upd (o := .lst vs) R hy
  exact P r _ _ (R.upd (R.off hy) n2) n2 ⟨y, vs, rfl, hy, R.off hy, upd_same, l, s.nx R n2⟩
theorem ints_rv {K : Frg} {r : List Addr} {H : Hp} : ∀ {ds : List D} {vs : List V} {is : List Int}, intsOf ds = some is → RVs K r H ds vs → vs = is.map V.int
  | [], _, _, e, h => by cases e; exact h
  | .int i :: ds, _, is, e, ⟨v, ws, ev, h, hs⟩ => by
    have e : (intsOf ds).map (i :: ·) = some is := e
    obtain ⟨js, e1, e2⟩ := Option.map_eq_some_iff.mp e
    subst e2
    rw [ev, show v = V.int i from h, ints_rv e1 hs]; rfl
  | .non :: _, _, _, e, _ => nomatch e
  | .bl _ :: _, _, _, e, _ => nomatch e
  | .str _ :: _, _, _, e, _ => nomatch e
  | .tup _ :: _, _, _, e, _ => nomatch e
  | .fz _ :: _, _, _, e, _ => nomatch e
  | .xt _ :: _, _, _, e, _ => nomatch e
  | .ref _ :: _, _, _, e, _ => nomatch e
theorem bools_rv {K : Frg} {r : List Addr} {H : Hp} : ∀ {ds : List D} {vs : List V} {is : List Bool}, boolsOf ds = some is → RVs K r H ds vs → vs = is.map V.bl
  | [], _, _, e, h => by cases e; exact h
  | .bl i :: ds, _, is, e, ⟨v, ws, ev, h, hs⟩ => by
    have e : (boolsOf ds).map (i :: ·) = some is := e
    obtain ⟨js, e1, e2⟩ := Option.map_eq_some_iff.mp e
    subst e2
    rw [ev, show v = V.bl i from h, bools_rv e1 hs]; rfl
  | .non :: _, _, _, e, _ => nomatch e
  | .int _ :: _, _, _, e, _ => nomatch e
  | .str _ :: _, _, _, e, _ => nomatch e
  | .tup _ :: _, _, _, e, _ => nomatch e
  | .fz _ :: _, _, _, e, _ => nomatch e
  | .xt _ :: _, _, _, e, _ => nomatch e
  | .ref _ :: _, _, _, e, _ => nomatch e
end
end Ev
namespace Ev
open PySem PySem.W L2 PyProof.Rows
section
variable [Tab] {X : Cx}
theorem list_sq {K : Frg} {mg : Str → Option Value} {r : List Addr} {H H0 : Hp} {M : Mem} (R : Rel K mg r H M) {x : A} {y : V} (q : RA K H0 r H x y) {ds : List D} (h : listOf M x = some ds) :
    ∃ p vs, y = .ref p ∧ RVs K r H ds vs ∧ ds.length ≤ sizeLine ∧ SqL K H p vs := by
  have h' : itemsOf M x = some ds := by
    unfold listOf at h
    split at h
    · cases h
    · cases h
    · exact h
  obtain ⟨p, vs, e, s, l, hs⟩ := items_sq R q h'
  rcases hs with ⟨hs, _⟩ | ⟨_, hs⟩
  · exact ⟨p, vs, e, s, l, hs⟩
  · rcases hs with ⟨_, hs⟩ | hs <;> (subst hs; cases h)
theorem call_sumT (hc : X.calm = true) : CallR X (.builtin "sum") (fun xs H Q => ∃ (a : Addr) (ns : List Int), xs = [V.ref a] ∧ SqT X.K H a (ns.map V.int) ∧ Q (.int ns.sum) H) := by
  intro pins s σ H xs us Q I r z
  obtain ⟨a, ns, rfl, hs, q⟩ := z
  obtain ⟨its, rv, ht, _⟩ := I.tuple hs
  rw [Vals.ref1 r]
  obtain ⟨zs, e⟩ := (Vals.ints rv).allInts.items
  have hn : numsOf (intItems zs).toList = ns := by rw [← e]; exact (Vals.ints rv).numsOf
  rw [nums_intItems] at hn
  rw [e] at ht
  refine PySem.W.ktm_sumG (I.ok.hd hc) ht fun h' tk t' hk => ?_
  rw [preSum_eq, List.take_of_length_le (by simp), hn]
  exact ⟨.int _, H, I.kept (t' := tk) hk, ⟨_, rfl⟩, q⟩
theorem bi_sum (hc : X.calm = true) : CallR X (.builtin "sum") (RBi X.K X.mg .sum) := by
  refine CallR.evI (q := fun xs H Q => rSum X.K xs H Q ∨ (fun xs H Q => ∃ (a : Addr) (ns : List Int), xs = [V.ref a] ∧ SqT X.K H a (ns.map V.int) ∧ Q (.int ns.sum) H) xs H Q) (fun pins s σ H xs us Q I r z => z.elim (cr_sum hc pins s σ H xs us Q I r) (call_sumT hc pins s σ H xs us Q I r)) fun xs H Q z => ?_
  obtain ⟨r, M, as, c, M', H0, R, ra, e, P⟩ := z
  obtain ⟨a, rfl, e1⟩ := un1_eq e
  obtain ⟨x, rfl, q⟩ := ra.one
  unfold biSum at e1
  split at e1
  · rename_i ds hds
    obtain ⟨is, h1, h2⟩ := Option.map_eq_some_iff.mp e1
    obtain ⟨rfl, rfl⟩ := Prod.mk.inj h2
    obtain ⟨p, vs, rfl, s, l, hs⟩ := items_sq R q hds
    have := ints_rv h1 s
    subst this
    rcases hs with ⟨hs, _⟩ | ⟨hs, _⟩
    · exact .inl ⟨p, is, rfl, hs, P.at R rfl⟩
    · exact .inr ⟨p, is, rfl, hs, P.at R rfl⟩
  · cases e1
theorem bi_all (hc : X.calm = true) : CallR X (.builtin "all") (RBi X.K X.mg .all) := by
  refine (cr_all hc).evI fun xs H Q z => ?_
  obtain ⟨r, M, as, c, M', H0, R, ra, e, P⟩ := z
  obtain ⟨a, rfl, e1⟩ := un1_eq e
  obtain ⟨x, rfl, q⟩ := ra.one
  unfold biAll at e1
  split at e1
  · rename_i ds hds
    obtain ⟨is, h1, h2⟩ := Option.map_eq_some_iff.mp e1
    obtain ⟨rfl, rfl⟩ := Prod.mk.inj h2
    obtain ⟨p, vs, rfl, s, l, hs⟩ := list_sq R q hds
    exact ⟨p, is, rfl, by rw [← bools_rv h1 s]; exact hs, P.at R rfl⟩
  · cases e1
theorem bi_any (hc : X.calm = true) : CallR X (.builtin "any") (RBi X.K X.mg .any) := by
  refine (cr_any hc).evI fun xs H Q z => ?_
  obtain ⟨r, M, as, c, M', H0, R, ra, e, P⟩ := z
  obtain ⟨a, rfl, e1⟩ := un1_eq e
  obtain ⟨x, rfl, q⟩ := ra.one
  unfold biAny at e1
  split at e1
  · rename_i ds hds
    obtain ⟨is, h1, h2⟩ := Option.map_eq_some_iff.mp e1
    obtain ⟨rfl, rfl⟩ := Prod.mk.inj h2
    obtain ⟨p, vs, rfl, s, l, hs⟩ := list_sq R q hds
    exact ⟨p, is, rfl, by rw [← bools_rv h1 s]; exact hs, P.at R rfl⟩
  · cases e1
theorem bi_abs : CallR X (.builtin "abs") (RBi X.K X.mg .abs) := by
  refine call_abs.evI fun xs H Q z => ?_
  obtain ⟨r, M, as, c, M', H0, R, ra, e, P⟩ := z
  obtain ⟨a, rfl, e1⟩ := un1_eq e
  obtain ⟨x, rfl, q⟩ := ra.one
  unfold biAbs at e1
  split at e1
  · rename_i i
    obtain ⟨rfl, rfl⟩ := Prod.mk.inj (Option.some.inj e1)
    cases q
    exact ⟨i, rfl, P.at R rfl⟩
  · cases e1
theorem bi_int : CallR X (.type "int") (RBi X.K X.mg .int) := by
  refine call_int1.evI fun xs H Q z => ?_
  obtain ⟨r, M, as, c, M', H0, R, ra, e, P⟩ := z
  obtain ⟨a, rfl, e1⟩ := un1_eq e
  obtain ⟨x, rfl, q⟩ := ra.one
  unfold biInt at e1
  split at e1
  · rename_i i
    obtain ⟨rfl, rfl⟩ := Prod.mk.inj (Option.some.inj e1)
    cases q
    exact .inl ⟨i, rfl, P.at R rfl⟩
  · rename_i b
    obtain ⟨rfl, rfl⟩ := Prod.mk.inj (Option.some.inj e1)
    cases q
    exact .inr ⟨b, rfl, P.at R rfl⟩
  · cases e1
theorem maxI_spec {is : List Int} {m : Int} (h : maxI is = some m) : m ∈ is ∧ ∀ y ∈ is, y ≤ m := by
  cases is with
  | nil => cases h
  | cons i is =>
    have h := Option.some.inj h
    subst h
    induction is generalizing i with
    | nil => exact ⟨List.mem_singleton.mpr rfl, fun y hy => by rw [List.mem_singleton.mp hy]; exact Int.le_refl _⟩
    | cons a is ih =>
      rw [List.foldl_cons]
      by_cases q : a > i
      · rw [if_pos q]
        obtain ⟨h1, h2⟩ := ih a rfl
        refine ⟨List.mem_cons_of_mem _ h1, fun y hy => ?_⟩
        have ha := h2 a List.mem_cons_self
        rcases List.mem_cons.mp hy with rfl | hy
        · omega
        · exact h2 y hy
      · rw [if_neg q]
        obtain ⟨h1, h2⟩ := ih i rfl
        have hi := h2 i List.mem_cons_self
        refine ⟨?_, fun y hy => ?_⟩
        · rcases List.mem_cons.mp h1 with e | h1
          · rw [e]; exact List.mem_cons_self
          · exact List.mem_cons_of_mem _ (List.mem_cons_of_mem _ h1)
        · rcases List.mem_cons.mp hy with rfl | hy
          · exact hi
          · rcases List.mem_cons.mp hy with rfl | hy
            · omega
            · exact h2 y (List.mem_cons_of_mem _ hy)
theorem max_fold (n : Int) : ∀ ns : List Int, ns.foldl max n = ns.foldl (fun a b => if b > a then b else a) n
  | [] => rfl
  | k :: ns => by
    rw [List.foldl_cons, List.foldl_cons]
    have : max n k = if k > n then k else n := by split <;> omega
    rw [this]
    exact max_fold _ ns
theorem reads_ints {h : Heap} : ∀ {ns : List Int} {us : List Value}, Vals (ns.map V.int) us → ReadsAll h us (ns.map PyData.int) []
  | [], _, r => by cases r; exact .nil
  | n :: ns, _, r => by
    cases r with
    | cons r1 r2 =>
      obtain ⟨t, rfl⟩ := r1
      exact .cons (as := []) (.int _ _) (reads_ints r2)
theorem call_maxT (hc : X.calm = true) (hu : X.A.units + 70 < cLine) : CallR X (.builtin "max") (fun xs H Q => ∃ (a : Addr) (ns : List Int) (m : Int), xs = [V.ref a] ∧ SqT X.K H a (ns.map V.int) ∧ maxI ns = some m ∧ Q (.int m) H) := by
  intro pins s σ H xs us Q I r z
  obtain ⟨a, ns, m, rfl, hs, hm, q⟩ := z
  obtain ⟨its, rv, ht, _⟩ := I.tuple hs
  rw [Vals.ref1 r]
  cases ns with
  | nil => cases hm
  | cons n ns =>
    have hr : ReadsAll s.heap its (PyData.int n :: ns.map PyData.int) [] := by have := reads_ints (h := s.heap) rv; rwa [List.map_cons] at this
    have al : ∀ ns : List Int, PyData.depthAll (ns.map PyData.int) = 0 := fun ns => by
      induction ns with
      | nil => rfl
      | cons n ns ih => rw [List.map_cons, PyData.depthAll, ih]; rfl
    refine PySem.W.max_tuple_data (x := .int n) (xs := ns.map .int) (as := []) (I.ok.hd hc) ht (by simpa using hr) ⟨fun x hx y hy => ?_, fun x hx => ?_⟩ (by have := al (n :: ns); rw [List.map_cons] at this; rw [this]; omega) fun i v h' tk bs hv hrd hk => ?_
    · have g : ∀ z ∈ PyData.int n :: ns.map PyData.int, ∃ k, z = .int k := fun z hz => by
        rcases List.mem_cons.mp hz with rfl | hz
        · exact ⟨_, rfl⟩
        · obtain ⟨k, _, rfl⟩ := List.mem_map.mp hz; exact ⟨k, rfl⟩
      obtain ⟨k, rfl⟩ := g x hx
      obtain ⟨l, rfl⟩ := g y hy
      rfl
    · rcases List.mem_cons.mp hx with rfl | hz
      · exact fun e => nomatch e
      · obtain ⟨k, _, rfl⟩ := List.mem_map.mp hz; exact fun e => nomatch e
    · rw [PySem.W.maxD_ints] at hrd
      cases hrd
      have : maxI (n :: ns) = some (ns.foldl max n) := by rw [max_fold]; rfl
      rw [this] at hm
      cases hm
      exact ⟨.int _, H, I.kept (t' := tk) hk, ⟨_, rfl⟩, q⟩
theorem bi_max (hc : X.calm = true) (hu : X.A.units + 70 < cLine) : CallR X (.builtin "max") (RBi X.K X.mg .max) := by
  refine CallR.evI (q := fun xs H Q => rMax X.K xs H Q ∨ (fun xs H Q => ∃ i j, xs = [V.int i, V.int j] ∧ Q (.int (if j > i then j else i)) H) xs H Q ∨ (fun xs H Q => ∃ (a : Addr) (ns : List Int) (m : Int), xs = [V.ref a] ∧ SqT X.K H a (ns.map V.int) ∧ maxI ns = some m ∧ Q (.int m) H) xs H Q)
    (fun pins s σ H xs us Q I r z => z.elim (cr_max hc pins s σ H xs us Q I r) fun z => z.elim (call_max2 hc pins s σ H xs us Q I r) (call_maxT hc hu pins s σ H xs us Q I r)) fun xs H Q z => ?_
  obtain ⟨r, M, as, c, M', H0, R, ra, e, P⟩ := z
  have e : biMaxA as M = some (c, M') := e
  unfold biMaxA at e
  split at e
  · obtain ⟨y, rfl, q⟩ := ra.one
    unfold biMaxL at e
    split at e
    · rename_i ds hds
      split at e
      · rename_i is his
        obtain ⟨m, hm, e2⟩ := Option.map_eq_some_iff.mp e
        obtain ⟨rfl, rfl⟩ := Prod.mk.inj e2
        obtain ⟨p, vs, rfl, sv, hl, hq⟩ := items_sq R q hds
        have := ints_rv his sv
        subst this
        rcases hq with ⟨hq, _⟩ | ⟨hq, _⟩
        · obtain ⟨s1, s2⟩ := maxI_spec hm
          refine .inl ⟨p, is, rfl, hq, List.length_pos_of_mem s1, fun m' h1 h2 => ?_⟩
          have a1 := s2 m' h1
          have a2 := h2 m s1
          have : m' = m := by omega
          subst this
          exact P.at R rfl
        · exact .inr (.inr ⟨p, is, m, rfl, hq, hm, P.at R rfl⟩)
      · cases e
    · cases e
  · obtain ⟨a, b, rfl, e1⟩ := un2_eq e
    obtain ⟨x, y, rfl, q, q'⟩ := ra.two
    unfold biMax at e1
    split at e1
    · obtain ⟨rfl, rfl⟩ := Prod.mk.inj (Option.some.inj e1)
      cases q; cases q'
      exact .inr (.inl ⟨_, _, rfl, P.at R rfl⟩)
    · cases e1
theorem minI_spec {is : List Int} {m : Int} (h : minI is = some m) : m ∈ is ∧ ∀ y ∈ is, m ≤ y := by
  cases is with
  | nil => cases h
  | cons i is =>
    have h := Option.some.inj h
    subst h
    induction is generalizing i with
    | nil => exact ⟨List.mem_singleton.mpr rfl, fun y hy => by rw [List.mem_singleton.mp hy]; exact Int.le_refl _⟩
    | cons a is ih =>
      rw [List.foldl_cons]
      by_cases q : a < i
      · rw [if_pos q]
        obtain ⟨h1, h2⟩ := ih a rfl
        refine ⟨List.mem_cons_of_mem _ h1, fun y hy => ?_⟩
        have ha := h2 a List.mem_cons_self
        rcases List.mem_cons.mp hy with rfl | hy
        · omega
        · exact h2 y hy
      · rw [if_neg q]
        obtain ⟨h1, h2⟩ := ih i rfl
        have hi := h2 i List.mem_cons_self
        refine ⟨?_, fun y hy => ?_⟩
        · rcases List.mem_cons.mp h1 with e | h1
          · rw [e]; exact List.mem_cons_self
          · exact List.mem_cons_of_mem _ (List.mem_cons_of_mem _ h1)
        · rcases List.mem_cons.mp hy with rfl | hy
          · exact hi
          · rcases List.mem_cons.mp hy with rfl | hy
            · omega
            · exact h2 y (List.mem_cons_of_mem _ hy)
/-! ### in order -/
theorem alikes_all : ∀ {ds : List PyData}, alikes ds = true → AllAlike ds
  | [], _ => fun _ h => nomatch h
  | d :: ds, h => by
    have h : ((ds.all fun e => alike d e && alike e d) && alike d d && alikes ds) = true := h
    rw [Bool.and_eq_true, Bool.and_eq_true, List.all_eq_true] at h
    obtain ⟨⟨h1, h2⟩, h3⟩ := h
    intro a ha b hb
    rcases List.mem_cons.mp ha with ea | ha'
    · rcases List.mem_cons.mp hb with eb | hb'
      · rw [ea, eb]; exact h2
      · have := h1 b hb'; rw [Bool.and_eq_true] at this; rw [ea]; exact this.1
    · rcases List.mem_cons.mp hb with eb | hb'
      · have := h1 a ha'; rw [Bool.and_eq_true] at this; rw [eb]; exact this.2
      · exact alikes_all h3 a ha' b hb'
theorem pys_map : ∀ ds : List D, D.pys ds = ds.map D.py
  | [] => rfl
  | d :: ds => by rw [List.map_cons, ← pys_map ds]; rfl
theorem pures_all : ∀ {ds : List D}, D.pures ds = true → ∀ d ∈ ds, d.pure = true
  | d :: ds, h, e, he => by
    have h : (d.pure && D.pures ds) = true := h
    rw [Bool.and_eq_true] at h
    rcases List.mem_cons.mp he with rfl | he
    · exact h.1
    · exact pures_all h.2 e he
theorem sortOk_use {ds : List D} (h : sortOk ds = true) : D.pures ds = true ∧ AllAlike (ds.map D.py) ∧ Sortable (ds.map D.py) ∧ ∀ d ∈ ds, d.py.depth ≤ 60 := by
  unfold sortOk at h
  rw [Bool.and_eq_true, Bool.and_eq_true, Bool.and_eq_true, pys_map] at h
  obtain ⟨⟨⟨h1, h2⟩, h3⟩, h4⟩ := h
  refine ⟨h1, alikes_all h2, ?_, fun d hd => ?_⟩
  · rw [Bool.or_eq_true, List.all_eq_true, List.all_eq_true] at h3
    rcases h3 with h3 | h3
    · refine .inl fun d hd => ?_
      have := h3 d hd
      unfold isTupC at this
      split at this
      · exact ⟨_, _, rfl⟩
      · cases this
    · refine .inr fun d hd => ?_
      have := h3 d hd
      unfold isFlat at this
      split at this
      · cases this
      · cases this
      · rename_i a b
        exact ⟨fun e => a e, fun xs e => b xs e⟩
  · exact of_decide_eq_true (List.all_eq_true.mp h4 _ (List.mem_map_of_mem hd))
/-- the sorted list's values -/
theorem out_rvs {K : Frg} {r : List Addr} {H : Hp} : ∀ {out : List Value} {ds : List D}, EachIs (fun u d => ∃ x, RV K r H d x ∧ RelV x u) out ds → ∃ xs, RVs K r H ds xs ∧ Vals xs out
  | _, _, .nil => ⟨[], rfl, .nil⟩
  | _, _, .cons ⟨x, h1, h2⟩ t => by
    obtain ⟨xs, h3, h4⟩ := out_rvs t
    exact ⟨x :: xs, ⟨x, xs, rfl, h1, h3⟩, .cons h2 h4⟩
theorem in_rvs {K : Frg} {r : List Addr} {H : Hp} : ∀ {ds : List D} {xs : List V} {us : List Value}, RVs K r H ds xs → Vals xs us → EachIs (fun u d => ∃ x, RV K r H d x ∧ RelV x u) us ds
  | [], _, _, h, v => by cases h; cases v; exact .nil
  | d :: ds, _, _, ⟨x, ws, e, h, hs⟩, v => by
    subst e
    cases v with
    | cons v1 v2 => exact .cons ⟨x, h, v1⟩ (in_rvs hs v2)
theorem each_imp {α β : Type} {F G : α → β → Prop} : ∀ {us : List α} {ds : List β}, EachIs F us ds → (∀ u d, d ∈ ds → F u d → G u d) → EachIs G us ds
  | _, _, .nil, _ => .nil
  | _, _, .cons h t, i => .cons (i _ _ (.head _) h) (each_imp t fun u d hd => i u d (.tail _ hd))
theorem sortD_length (ds : List D) : (sortD ds).length = ds.length := List.length_mergeSort ds
theorem mem_sortD {ds : List D} {d : D} : d ∈ sortD ds ↔ d ∈ ds := (List.mergeSort_perm ds _).mem_iff
/-- sorted(x) of a list -/
theorem sorted_list {pins : List (Addr × Obj)} {s : Shared} {σ : L2.St} {H : Hp} {Q : V → Hp → Prop} {mg : Str → Option Value} {r : List Addr} {M : Mem} (hu : X.A.units + 70 < cLine) (I : L2.Inv X pins σ H s) (R : Rel X.K mg r H M)
    {p : Addr} {vs : List V} {ds : List D} (sv : RVs X.K r H ds vs) (hl : ds.length ≤ sizeLine) (hs : SqL X.K H p vs) (ok : sortOk ds = true)
    (P : ∀ q ws, H q = none → RVs X.K r H (sortD ds) ws → Q (.ref q) (L2.upd H q (.lst ws))) : wpAny (model X.prog X.w) X.A (call (.builtin "sorted") [.ref p]) (EP X pins σ Q) X.xe s := by
  obtain ⟨its, rv, hp, _⟩ := I.list hs
  obtain ⟨k1, k2, k3, k4⟩ := sortOk_use ok
  have ea := in_rvs sv rv
  refine sorted_data (R := fun u d => ∃ x, RV X.K r H d x ∧ RelV x u) (enc := D.py) (bs := ds) hp.isList ea (each_imp ea fun u d hd ⟨x, h1, h2⟩ => Dp.reads I _ _ _ (h1.dp (pures_all k1 d hd)) h2) k2 k3 hl (fun d hd => ?_) fun out ho eo => ?_
  · have := k4 d hd
    omega
  · obtain ⟨ws, h1, h2⟩ := out_rvs eo
    obtain ⟨e, he⟩ := sortedAll_at s.heap its (List.toArray out)
    have hle : ws.length ≤ sizeLine := by rw [h2.length, ho]; exact hl
    refine ⟨.ref (s.heap.objs.size + 1), L2.upd H (s.heap.objs.size + 1) (.lst ws), ?_, rfl, P _ _ (I.hok.fresh (Nat.le_succ _)) h1⟩
    exact I.laid (a := s.heap.objs.size + 1) (t' := s.toks) (fun b u q => sortedAll_old q) (Nat.le_succ _) ⟨hle, out, e, h2, he⟩
mutual
theorem py_inj : ∀ {a b : D}, a.pure = true → b.pure = true → a.nox = true → b.nox = true → a.py = b.py → a = b
  | .non, b, _, q, _, y, h => by cases b <;> first | rfl | (cases h; done) | (cases q; done)
  | .bl _, b, _, q, _, y, h => by cases b <;> first | (cases h; done) | (cases q; done) | (cases h; rfl)
  | .int _, b, _, q, _, y, h => by cases b <;> first | (cases h; done) | (cases q; done) | (cases h; rfl)
  | .str _, b, _, q, _, y, h => by cases b <;> first | (cases h; done) | (cases q; done) | (cases h; rfl)
  | .tup xs, .tup ys, p, q, x, y, h => by
    rw [D.py, D.py] at h
    rw [pys_inj (show D.pures xs = true from p) (show D.pures ys = true from q) (show D.noxs xs = true from x) (show D.noxs ys = true from y) (PyData.tuple.inj h)]
  | .tup _, .non, _, _, _, _, h | .tup _, .bl _, _, _, _, _, h | .tup _, .int _, _, _, _, _, h | .tup _, .str _, _, _, _, _, h | .tup _, .fz _, _, _, _, _, h => nomatch h
  | .fz xs, .fz ys, p, q, x, y, h => by
    rw [D.py, D.py] at h
    rw [pys_inj (show D.pures xs = true from p) (show D.pures ys = true from q) (show D.noxs xs = true from x) (show D.noxs ys = true from y) (PyData.list.inj h)]
  | .fz _, .non, _, _, _, _, h | .fz _, .bl _, _, _, _, _, h | .fz _, .int _, _, _, _, _, h | .fz _, .str _, _, _, _, _, h | .fz _, .tup _, _, _, _, _, h => nomatch h
  | .ref _, _, p, _, _, _, _ => nomatch p
  | .xt _, _, _, _, x, _, _ => nomatch x
  | _, .ref _, _, p, _, _, _ => nomatch p
  | _, .xt _, _, _, _, x, _ => nomatch x
theorem pys_inj : ∀ {a b : List D}, D.pures a = true → D.pures b = true → D.noxs a = true → D.noxs b = true → D.pys a = D.pys b → a = b
  | [], [], _, _, _, _, _ => rfl
  | [], _ :: _, _, _, _, _, h => nomatch h
  | _ :: _, [], _, _, _, _, h => nomatch h
  | x :: a, y :: b, p, q, u, v, h => by
    rw [D.pures, Bool.and_eq_true] at p q
    rw [D.noxs, Bool.and_eq_true] at u v
    rw [D.pys, D.pys, List.cons.injEq] at h
    rw [py_inj p.1 q.1 u.1 v.1 h.1, pys_inj p.2 q.2 u.2 v.2 h.2]
end
theorem noxs_all : ∀ {ds : List D}, D.noxs ds = true → ∀ d ∈ ds, d.nox = true
  | d :: ds, h, e, he => by
    rw [D.noxs, Bool.and_eq_true] at h
    rcases List.mem_cons.mp he with rfl | he
    · exact h.1
    · exact noxs_all h.2 e he
theorem min_py : ∀ (ds : List D) (d : D), (ds.foldl (fun a y => if PySem.W.dataLt y.py a.py = true then y else a) d).py = (ds.map D.py).foldl (fun a y => if PySem.W.dataLt y a then y else a) d.py
  | [], d => rfl
  | x :: ds, d => by
    rw [List.foldl_cons, List.map_cons, List.foldl_cons, min_py ds]
    split <;> rfl
theorem min_mem : ∀ (ds : List D) (d : D), (ds.foldl (fun a y => if PySem.W.dataLt y.py a.py = true then y else a) d) ∈ d :: ds
  | [], d => by simp
  | x :: ds, d => by
    rw [List.foldl_cons]
    have := min_mem ds (if PySem.W.dataLt x.py d.py = true then x else d)
    rcases List.mem_cons.mp this with h | h
    · rw [h]; split <;> simp
    · exact List.mem_cons_of_mem _ (List.mem_cons_of_mem _ h)
theorem each_get {α β : Type} {F : α → β → Prop} : ∀ {us : List α} {ds : List β}, EachIs F us ds → ∀ {i : Nat} {u : α}, us[i]? = some u → ∃ d, ds[i]? = some d ∧ F u d
  | _, _, .nil, i, u, h => by simp at h
  | _, _, .cons h t, 0, u, e => by
    rw [List.getElem?_cons_zero] at e
    cases e
    exact ⟨_, List.getElem?_cons_zero, h⟩
  | _, _, .cons h t, i + 1, u, e => by
    rw [List.getElem?_cons_succ] at e
    obtain ⟨d, h1, h2⟩ := each_get t e
    exact ⟨d, by rw [List.getElem?_cons_succ]; exact h1, h2⟩
theorem depth_all {ds : List D} (h : ∀ d ∈ ds, d.py.depth ≤ 60) : PyData.depthAll (ds.map D.py) ≤ 60 := by
  induction ds with
  | nil => exact Nat.zero_le _
  | cons d ds ih =>
    rw [List.map_cons, PyData.depthAll]
    have h1 := h d List.mem_cons_self
    have h2 := ih fun e he => h e (List.mem_cons_of_mem _ he)
    omega
theorem call_minD (hc : X.calm = true) (hu : X.A.units + 70 < cLine) : CallR X (.builtin "min") (fun xs H Q => ∃ (a : Addr) (vs : List V) (r : List Addr) (mg : Str → Option Value) (M : Mem) (ds : List D) (d : D), xs = [V.ref a] ∧ Rel X.K mg r H M ∧ SqL X.K H a vs ∧ RVs X.K r H ds vs ∧ (sortOk ds && D.noxs ds) = true ∧ minDat ds = some d ∧ ∀ v, RV X.K r H d v → Q v H) := by
  intro pins s σ H xs us Q I rr z
  obtain ⟨a, vs, r, mg, M, ds, d, rfl, R, hs, sv, ok, hm, q⟩ := z
  obtain ⟨its, rv, hp, _⟩ := I.list hs
  rw [Vals.ref1 rr]
  rw [Bool.and_eq_true] at ok
  obtain ⟨ok, onx⟩ := ok
  obtain ⟨k1, k2, k3, k4⟩ := sortOk_use ok
  have ea := in_rvs sv rv
  have er := each_imp ea fun u d hd ⟨x, h1, h2⟩ => Dp.reads I _ _ _ (h1.dp (pures_all k1 d hd)) h2
  obtain ⟨as, hr⟩ := PySem.W.each_readsAll D.py er
  cases ds with
  | nil => cases hm
  | cons d0 ds =>
    cases hm
    rw [List.map_cons] at hr
    have nn : ∀ x ∈ d0.py :: ds.map D.py, x ≠ .none := by
      intro x hx
      rw [← List.map_cons] at hx
      rcases k3 with k3 | k3
      · obtain ⟨y, ys, e⟩ := k3 x hx
        rw [e]; exact fun e => nomatch e
      · exact (k3 x hx).1
    have hd := depth_all k4
    rw [List.map_cons] at hd
    refine PySem.W.min_list_data (x := d0.py) (xs := ds.map D.py) (as := as) (I.ok.hd hc) hp.isList (by simpa using hr) ⟨fun x hx y hy => k2 x (by rw [List.map_cons]; exact hx) y (by rw [List.map_cons]; exact hy), nn⟩ (by omega) fun i v h' tk bs hv hrd hk => ?_
    have hv : its[i]? = some v := by simpa using hv
    obtain ⟨e, he1, x, he2, he3⟩ := each_get ea hv
    have hem := List.mem_of_getElem? he1
    obtain ⟨cs, hc1⟩ := Dp.reads I _ _ _ (he2.dp (pures_all k1 e hem)) he3
    have hc2 := PySem.W.reads_keeps hk hc1
    have hmm := min_mem ds d0
    have e1 : e.py = (ds.foldl (fun a y => if PySem.W.dataLt y.py a.py = true then y else a) d0).py := by
      rw [min_py]
      exact (PySem.Reads.unique hc2 _ _ hrd).1
    have e2 := py_inj (pures_all k1 e hem) (pures_all k1 _ hmm) (noxs_all onx e hem) (noxs_all onx _ hmm) e1
    subst e2
    exact ⟨x, H, I.kept (t' := tk) hk, he3, q x he2⟩
theorem bi_min (hc : X.calm = true) (hu : X.A.units + 70 < cLine) : CallR X (.builtin "min") (RBi X.K X.mg .min) := by
  refine CallR.evI (q := fun xs H Q => rMin X.K xs H Q ∨ (fun xs H Q => ∃ i j, xs = [V.int i, V.int j] ∧ Q (.int (if j < i then j else i)) H) xs H Q ∨ (fun xs H Q => ∃ (a : Addr) (vs : List V) (r : List Addr) (mg : Str → Option Value) (M : Mem) (ds : List D) (d : D), xs = [V.ref a] ∧ Rel X.K mg r H M ∧ SqL X.K H a vs ∧ RVs X.K r H ds vs ∧ (sortOk ds && D.noxs ds) = true ∧ minDat ds = some d ∧ ∀ v, RV X.K r H d v → Q v H) xs H Q)
    (fun pins s σ H xs us Q I r z => z.elim (cr_min hc pins s σ H xs us Q I r) fun z => z.elim (call_min2 hc pins s σ H xs us Q I r) (call_minD hc hu pins s σ H xs us Q I r)) fun xs H Q z => ?_
  obtain ⟨r, M, as, c, M', H0, R, ra, e, P⟩ := z
  have e : biMinA as M = some (c, M') := e
  unfold biMinA at e
  split at e
  · obtain ⟨y, rfl, q⟩ := ra.one
    unfold biMinL at e
    split at e
    · rename_i ds hds
      split at e
      · rename_i is his
        obtain ⟨m, hm, e2⟩ := Option.map_eq_some_iff.mp e
        obtain ⟨rfl, rfl⟩ := Prod.mk.inj e2
        obtain ⟨p, vs, rfl, sv, hl, hq⟩ := list_sq R q hds
        have := ints_rv his sv
        subst this
        obtain ⟨s1, s2⟩ := minI_spec hm
        refine .inl ⟨p, is, rfl, hq, List.length_pos_of_mem s1, fun m' h1 h2 => ?_⟩
        have a1 := s2 m' h1
        have a2 := h2 m s1
        have : m' = m := by omega
        subst this
        exact P.at R rfl
      · split at e
        · rename_i ok
          obtain ⟨d, hm, e2⟩ := Option.map_eq_some_iff.mp e
          obtain ⟨rfl, rfl⟩ := Prod.mk.inj e2
          obtain ⟨p, vs, rfl, sv, hl, hq⟩ := list_sq R q hds
          exact .inr (.inr ⟨p, vs, r, X.mg, M, ds, d, rfl, R, hq, sv, ok, hm, fun v hv => P.at R hv⟩)
        · cases e
    · cases e
  · obtain ⟨a, b, rfl, e1⟩ := un2_eq e
    obtain ⟨x, y, rfl, q, q'⟩ := ra.two
    unfold biMin at e1
    split at e1
    · obtain ⟨rfl, rfl⟩ := Prod.mk.inj (Option.some.inj e1)
      cases q; cases q'
      exact .inr (.inl ⟨_, _, rfl, P.at R rfl⟩)
    · cases e1
/-- keys as the model reads them -/
theorem key_reads {h : Heap} {k : Key} {u : Value} (hr : RelV (kV k) u) : Reads h u (kD k).py [] := by
  cases k with
  | inl i => obtain ⟨t, rfl⟩ := hr; exact .int _ _
  | inr x => obtain ⟨t, rfl⟩ := hr; exact .str _ _
theorem keys_reads {h : Heap} : ∀ {k : List Key} {us : List Value}, Vals (k.map kV) us → ReadsAll h us (D.pys (k.map kD)) []
  | [], _, v => by cases v; exact .nil
  | k :: ks, _, v => by
    cases v with
    | cons v1 v2 => exact .cons (as := []) (bs := []) (key_reads v1) (keys_reads v2)
/-- sorted of what collects to these values -/
theorem sorted_coll2 {pins : List (Addr × Obj)} {s : Shared} {σ : L2.St} {H : Hp} {Q : V → Hp → Prop} {mg : Str → Option Value} {r : List Addr} {M : Mem} (hu : X.A.units + 70 < cLine) (I : L2.Inv X pins σ H s) (R : Rel X.K mg r H M)
    {a : Addr} {ds : List D} (hl : ds.length ≤ sizeLine) (ok : sortOk ds = true)
    (hcol : ∀ (F : List Value → Shared → Prop), (∀ (h' : Heap) (tk : Nat) (us : List Value), (∀ b o, s.heap.get? b = some o → h'.get? b = some o) → EachIs (fun u d => (∃ x, RV X.K r H d x ∧ RelV x u) ∧ ∃ as, Reads h' u d.py as) us ds → F us { s with heap := h', toks := tk }) →
      wpAny (model X.prog X.w) X.A.in1 (collect (.ref a)) F X.xe s)
    (P : ∀ q ws, H q = none → RVs X.K r H (sortD ds) ws → Q (.ref q) (L2.upd H q (.lst ws))) : wpAny (model X.prog X.w) X.A (call (.builtin "sorted") [.ref a]) (EP X pins σ Q) X.xe s := by
  obtain ⟨k1, k2, k3, k4⟩ := sortOk_use ok
  refine Calls.call_function_entry PyProof.Rows.kind_sorted PyProof.Rows.plain_sorted PyProof.Rows.entry_sorted (PyProof.Rows.args_sorted1 _) ?_
  unfold Builtin.«sorted»
  refine wpAny_bind (m := checkCount "sorted" 1 1 _) (wpAny_pure ?_)
  refine wpAny_bind (hcol _ fun h' tk us hk hea => ?_)
  have hul : us.length = ds.length := hea.length
  have I1 : L2.Inv X pins σ H { s with heap := h', toks := tk } := I.kept hk
  refine wpAny_bind (wpAny_newList ?_ (by rw [hul]; exact hl))
  have hoL : (h'.push (seqObj "list" us.toArray 0)).get? h'.objs.size = some (seqObj "list" us.toArray 0) := Heap.get?_push_size _ rfl
  show wpAny _ _ _ _ _ { s with heap := h'.push (seqObj "list" us.toArray 0), toks := tk }
  refine wpAny_bind (wpAny_holding (list_sort_data (s := { s with heap := h'.push (seqObj "list" us.toArray 0), toks := tk }) (R := fun u d => ∃ x, RV X.K r H d x ∧ RelV x u) (enc := D.py) (bs := ds) hoL (each_imp hea fun u d _ z => z.1)
    (each_imp hea fun u d _ z => by
      obtain ⟨as, q⟩ := z.2
      refine ⟨as, PyProof.Rows.Reads.keeps (fun b o e => Heap.get?_push_of_some _ e) q, fun hm => ?_⟩
      obtain ⟨o, ho⟩ := PyProof.On.reads_mem_get q _ hm
      exact absurd (Heap.lt_size ho) (Nat.lt_irrefl _)) k2 k3 hl (fun d hd => ?_) fun out ho eo => ?_))
  · have := k4 d hd
    show X.A.units + 1 + 1 + d.py.depth < cLine
    omega
  · obtain ⟨ws, h1, h2⟩ := out_rvs eo
    obtain ⟨e', he'⟩ := PyProof.Rows.sortedHeap_at (vs := us) (out := List.toArray out) hoL
    have hle : ws.length ≤ sizeLine := by rw [h2.length, ho]; exact hl
    refine wpAny_pure ⟨_, rfl, .ref h'.objs.size, L2.upd H h'.objs.size (.lst ws), I1.laid (t' := tk) (fun b u e => ?_) (Nat.le_refl _)
      (show ObjOk X.prog X.w _ _ _ (.lst ws) from ⟨hle, out, e', h2, he'⟩), rfl, P _ _ (I1.hok.fresh (Nat.le_refl _)) h1⟩
    have hb : b < h'.objs.size := Heap.lt_size e
    rw [PyProof.Rows.sortedHeap_old (Nat.ne_of_lt hb) (by rw [size_push']; exact Nat.lt_succ_of_lt hb)]
    exact Heap.get?_push_of_some _ e
theorem sorted_coll {pins : List (Addr × Obj)} {s : Shared} {σ : L2.St} {H : Hp} {Q : V → Hp → Prop} {mg : Str → Option Value} {r : List Addr} {M : Mem} (hu : X.A.units + 70 < cLine) (I : L2.Inv X pins σ H s) (R : Rel X.K mg r H M)
    {a : Addr} {ds : List D} (hl : ds.length ≤ sizeLine) (ok : sortOk ds = true)
    (hcol : ∀ (F : List Value → Shared → Prop), (∀ (h' : Heap) (tk : Nat) (us : List Value), (∀ b o, s.heap.get? b = some o → h'.get? b = some o) → EachIs (fun u d => (∃ x, RV X.K r H d x ∧ RelV x u) ∧ ∀ h2 : Heap, (∀ b o, h'.get? b = some o → h2.get? b = some o) → Reads h2 u d.py []) us ds → F us { s with heap := h', toks := tk }) →
      wpAny (model X.prog X.w) X.A.in1 (collect (.ref a)) F X.xe s)
    (P : ∀ q ws, H q = none → RVs X.K r H (sortD ds) ws → Q (.ref q) (L2.upd H q (.lst ws))) : wpAny (model X.prog X.w) X.A (call (.builtin "sorted") [.ref a]) (EP X pins σ Q) X.xe s :=
  sorted_coll2 hu I R hl ok (fun F hF => hcol F fun h' tk us hk hea => hF h' tk us hk (each_imp hea fun u d _ z => ⟨z.1, [], z.2 h' fun _ _ e => e⟩)) P
theorem each_ix {α β : Type} {F : α → β → Prop} : ∀ {us : List α} {ds : List β}, us.length = ds.length → (∀ (j : Nat) (u : α) (d : β), us[j]? = some u → ds[j]? = some d → F u d) → EachIs F us ds
  | [], [], _, _ => .nil
  | u :: us, d :: ds, hl, h => .cons (h 0 u d rfl rfl) (each_ix (by simpa using hl) fun j u d e1 e2 => h (j + 1) u d (by simpa using e1) (by simpa using e2))
  | [], _ :: _, hl, _ => by simp at hl
  | _ :: _, [], hl, _ => by simp at hl
theorem paired_at {α β : Type} {F : α → β → Prop} {xs : List α} {ys : List β} (p : Paired F xs ys) : ∀ {j : Nat} {x : α} {y : β}, xs[j]? = some x → ys[j]? = some y → F x y := by
  induction p with
  | nil => intro j x y e; simp at e
  | @cons a b as bs q _ ih =>
    intro j x y e1 e2
    cases j with
    | zero => simp at e1 e2; subst e1 e2; exact q
    | succ j => exact ih (by simpa using e1) (by simpa using e2)
theorem rv_key {K : Frg} {r : List Addr} {H : Hp} {k : Key} : RV K r H (kD k) (kV k) := by
  cases k with
  | inl i => rfl
  | inr s => rfl
theorem bi_sorted (hc : X.calm = true) (hu : X.A.units + 70 < cLine) : CallR X (.builtin "sorted") (RBi X.K X.mg .sorted) := by
  intro pins s σ H xs us Q I rv z
  obtain ⟨r, M, as, c, M', H0, R, ra, e, P⟩ := z
  obtain ⟨a, rfl, e1⟩ := un1_eq e
  obtain ⟨x, rfl, q⟩ := ra.one
  obtain ⟨u, rfl, rx⟩ := vals1 rv
  unfold biSorted at e1
  split at e1
  · rename_i ds hds
    split at e1
    · rename_i ok
      obtain ⟨rfl, rfl⟩ := Prod.mk.inj (Option.some.inj e1)
      have fin : ds.length ≤ sizeLine → ∀ q ws, H q = none → RVs X.K r H (sortD ds) ws → Q (.ref q) (L2.upd H q (.lst ws)) := fun hl q ws hq hw => by
        have n2 := Nx.upd (o := .lst ws) R hq
        exact P r _ _ (R.upd (R.off hq) n2) n2 ⟨q, ws, rfl, hq, R.off hq, upd_same, by rw [sortD_length]; exact hl, hw.nx R n2⟩
      have lst : ∀ {a : A}, RA X.K H0 r H a x → listOf M a = some ds → wpAny (model X.prog X.w) X.A (call (.builtin "sorted") [u]) (EP X pins σ Q) X.xe s := fun {a} q h => by
        obtain ⟨p, vs, rfl, sv, hl, hs⟩ := list_sq R q h
        cases rx
        exact sorted_list hu I R sv hl hs ok (fin hl)
      unfold drawsOf at hds
      split at hds
      · rename_i n
        split at hds
        · rename_i ds' hm
          cases hds
          exact lst (a := .v (.ref n)) q (by unfold listOf; split <;> first | (rename_i h; cases h) | exact itemsOf_ref hm)
        · rename_i t kvs hm
          cases hds
          obtain ⟨p, rfl, hp⟩ := q
          obtain ⟨p', hp', ro⟩ := R.at hm
          rw [hp] at hp'; cases hp'
          cases rx
          cases t with
          | false =>
            obtain ⟨ks, h1, h2, h3⟩ := ro
            obtain ⟨zz, lo, vs, rel, dd⟩ := dk_of I.hok h1
            obtain ⟨ep, hat⟩ := dd.dictAt
            have hvl : vs.length = kvs.length := by rw [← Paired.length rel, ← Paired.length h3]
            refine sorted_coll hu I R (by rw [List.length_map]; exact h2) ok (fun F hF => PySem.W.kdu_collect (A := X.A.in1) (PySem.W.kdl_dict (knd := mixKind X.prog X.w) (kvs := vs) (ep := ep) lo) (I.ok.hd hc) hat (by rw [hvl]; exact h2) fun h' tk acc hk hacc => hF h' tk acc.toList hk ?_) (fin (by rw [List.length_map]; exact h2))
            refine each_ix (by rw [Array.length_toList, hacc.1, hvl, List.length_map]) fun j u d e1 e2 => ?_
            obtain ⟨k, x, e3, e4⟩ := hacc.2 j u (by rw [← Array.getElem?_toList]; exact e1)
            rw [List.getElem?_map] at e2
            cases e5 : kvs[j]? with
            | none => rw [e5] at e2; cases e2
            | some kv =>
              rw [e5] at e2
              cases e2
              obtain ⟨kw, e6⟩ : ∃ kw, ks[j]? = some kw := by
                have hj := (List.getElem?_eq_some_iff.mp e5).1
                rw [Paired.length h3] at hj
                exact ⟨_, List.getElem?_eq_getElem hj⟩
              have g1 := paired_at h3 e5 e6
              have g2 := (paired_at rel e6 e3).1
              have g2 : kw.1 = k := g2
              have g4 : RelV (kV k) u := by
                rcases keyIs_shape (show keyIs k u = true from e4) with ⟨i, t, rfl, rfl⟩ | ⟨z, t, rfl, rfl⟩
                · exact ⟨t, rfl⟩
                · exact ⟨t, rfl⟩
              have g5 : kv.1 = kD k := by rw [g1.1, g2]
              show (∃ x, RV X.K r H kv.1 x ∧ L2.RelV x u) ∧ ∀ h2 : Heap, (∀ b o, h'.get? b = some o → h2.get? b = some o) → Reads h2 u kv.1.py []
              rw [g5]
              exact ⟨⟨kV k, rv_key, g4⟩, fun h2 _ => key_reads g4⟩
          | true =>
            obtain ⟨ks, h1, h2, h3⟩ := ro
            obtain ⟨zz, lo, xs, rel, o, es, ep, g1, g2, g3, g4, g5, g6⟩ := dt_rd I.hok (.inl h1)
            have hesl : es.size = kvs.length := by
              have : es.toList.length = xs.length := by rw [g4, List.length_map]
              rw [← Array.length_toList, this, ← Paired.length rel, ← Paired.length h3]
            refine sorted_coll hu I R (by rw [List.length_map]; exact h2) ok (fun F hF => PySem.W.kdu_collect (A := X.A.in1) (PySem.KdlSrc.rawDict (es := es) (ep := ep) lo) (I.ok.hd hc) ⟨o, g1, g2, g3⟩ (by rw [hesl]; exact h2) fun h' tk acc hk hacc => hF h' tk acc.toList hk ?_) (fin (by rw [List.length_map]; exact h2))
            refine each_ix (by rw [Array.length_toList, hacc.1, hesl, List.length_map]) fun j u d e1 e2 => ?_
            obtain ⟨hj, e4⟩ := hacc.2 j u (by rw [← Array.getElem?_toList]; exact e1)
            rw [List.getElem?_map] at e2
            cases e5 : kvs[j]? with
            | none => rw [e5] at e2; cases e2
            | some kv =>
              rw [e5] at e2
              cases e2
              obtain ⟨kw, e6⟩ : ∃ kw, ks[j]? = some kw := by
                have hj := (List.getElem?_eq_some_iff.mp e5).1
                rw [Paired.length h3] at hj
                exact ⟨_, List.getElem?_eq_getElem hj⟩
              obtain ⟨x, e7⟩ : ∃ x, xs[j]? = some x := by
                have hj := (List.getElem?_eq_some_iff.mp e6).1
                rw [Paired.length rel] at hj
                exact ⟨_, List.getElem?_eq_getElem hj⟩
              have f1 := (paired_at h3 e5 e6).1
              obtain ⟨f2, f3, f4⟩ := paired_at rel e6 e7
              have f5 : u = .ref x.2.1 := by
                rw [e4]
                have : es.toList[j]? = some (entryOfKey (tupleKind (mixKind X.prog X.w)) x) := by rw [g4, List.getElem?_map, e7]; rfl
                rw [Array.getElem?_toList, Array.getElem?_eq_getElem hj] at this
                rw [Option.some.inj this]; rfl
              subst f5
              show (∃ y, RV X.K r H kv.1 y ∧ L2.RelV y _) ∧ ∀ h2 : Heap, (∀ b o, h'.get? b = some o → h2.get? b = some o) → Reads h2 _ kv.1.py []
              rw [f1]
              obtain ⟨fz, its, frel, ftup⟩ := (I.hok _ _ f3 : ObjOk _ _ _ _ _ (.tup _))
              refine ⟨⟨.ref x.2.1, ⟨x.2.1, kw.1.map kV, rfl, by exact f3, ?_, ?_⟩, rfl⟩, fun h2 hk2 => ?_⟩
              · rw [List.length_map] at fz ⊢; exact fz
              · have : ∀ l : List Key, RVs X.K r H (l.map kD) (l.map kV) := fun l => by
                  induction l with
                  | nil => rfl
                  | cons k l ih => exact ⟨kV k, _, rfl, rv_key, ih⟩
                exact this kw.1
              · obtain ⟨ob, t1, t2, n, t3⟩ := ftup
                exact .tuple (hk2 _ _ (hk _ _ t1)) t2 t3 (by rw [List.toList_toArray]; exact keys_reads frel)
        · cases hds
      · rename_i ds'
        cases hds
        obtain ⟨p, vs, rfl, sv, hl, hs⟩ := items_sq R q (ds := ds) rfl
        rcases hs with ⟨_, hn⟩ | ⟨hs, _⟩
        · exact ((hn ds).1 rfl).elim
        · obtain ⟨its, rv2, ht, _⟩ := I.tuple hs
          cases rx
          obtain ⟨k1, _⟩ := sortOk_use ok
          refine sorted_coll2 hu I R hl ok (fun F hF => ?_) (fin hl)
          obtain ⟨o, ho, hcl, n, hd⟩ := id ht
          have hlen : its.toArray.size ≤ sizeLine := by
            have e1 := (Vals.length rv2).symm
            have e2 := RVs.length sv
            rw [List.size_toArray, e1, ← e2]
            exact hl
          refine PySem.wpAny_collect_seq p (.inr rfl) ho hcl hd (fun h' hk => ?_) hlen
          rw [List.toList_toArray]
          exact hF h' s.toks its hk (each_imp (in_rvs sv rv2) fun u d hd ⟨x, h1, h2⟩ => ⟨⟨x, h1, h2⟩, Dp.reads (I.kept (t' := s.toks) hk) _ _ _ (h1.dp (pures_all k1 d hd)) h2⟩)
      · rename_i ds'
        cases hds
        obtain ⟨p, vs, rfl, hxs, hl, sv⟩ := q
        have hs := hxs.sq (K := X.K)
        · obtain ⟨its, rv2, ht, _⟩ := I.tuple hs
          cases rx
          obtain ⟨k1, _⟩ := sortOk_use ok
          refine sorted_coll2 hu I R hl ok (fun F hF => ?_) (fin hl)
          obtain ⟨o, ho, hcl, n, hd⟩ := id ht
          have hlen : its.toArray.size ≤ sizeLine := by
            have e1 := (Vals.length rv2).symm
            have e2 := RVs.length sv
            rw [List.size_toArray, e1, ← e2]
            exact hl
          refine PySem.wpAny_collect_seq p (.inr rfl) ho hcl hd (fun h' hk => ?_) hlen
          rw [List.toList_toArray]
          exact hF h' s.toks its hk (each_imp (in_rvs sv rv2) fun u d hd ⟨x, h1, h2⟩ => ⟨⟨x, h1, h2⟩, Dp.reads (I.kept (t' := s.toks) hk) _ _ _ (h1.dp (pures_all k1 d hd)) h2⟩)
      · exact lst q hds
    · cases e1
  · cases e1
end
end Ev
namespace L2
open PySem PySem.W PySem.Calls PyProof.Rows
theorem tuple_mul1 (l : Addr) (items : Array Value) (n : Nat) (dd : Option Addr) (sl : Array (Option Value)) (u : Tok) :
    Meets (Builtin.«tuple.__mul__» ⟨[.ref l, .int 1 u], []⟩) (fun _ R s => s.heap.get? l = some { cls := .type "tuple", dict := dd, data := .seq items n, slots := sl } ∧ R (.ok (.ret (Value.ref l))) s) :=
  .of_wp fun pr w A R st h => by
    obtain ⟨hp, gn, dn, tk, os⟩ := st
    obtain ⟨hl, h⟩ := h
    have fi := AutoSeq1.idx_int; wp_walk using wpAny_loadPart' hl
    exact ⟨_, rfl, h⟩
theorem tuple_mul0 (l : Addr) (x0 : Value) (n : Nat) (dd : Option Addr) (sl : Array (Option Value)) (u : Tok) :
    Meets (Builtin.«tuple.__mul__» ⟨[.ref l, .int 0 u], []⟩) (fun _ R s => s.heap.get? l = some { cls := .type "tuple", dict := dd, data := .seq #[x0] n, slots := sl } ∧ R (.ok (.ret (Value.ref s.heap.objs.size))) { s with heap := s.heap.push { cls := Value.type "tuple", data := Data.seq #[] }, toks := s.toks }) :=
  .of_wp fun pr w A R st h => by
    obtain ⟨hp, gn, dn, tk, os⟩ := st
    obtain ⟨hl, h⟩ := h
    have fi := AutoSeq1.idx_int; wp_walk using wpAny_loadPart' hl
    exact ⟨_, rfl, h⟩
/-- a tuple taken once is itself -/
def rRep1 (K : PySem.W.Frag) : R2 := fun x y H Q => ∃ l xs, x = .ref l ∧ y = .int 1 ∧ SqT K H l xs ∧ Q (.ref l) H
/-- a tuple of one, taken no time -/
def rRep0 (K : PySem.W.Frag) : R2 := fun x y H Q => ∃ l a, x = .ref l ∧ y = .int 0 ∧ SqT K H l [a] ∧ ∀ p, H p = none → Q (.ref p) (upd H p (.tup []))
section
variable {X : Cx}
theorem op_rep1 : OpR X (binaryOp .Mult) (rRep1 X.K) := by
  intro ps s σ H x y v u Q I rx ry h
  obtain ⟨l, xs, rfl, rfl, hT, q⟩ := h
  cases rx
  obtain ⟨t, rfl⟩ := ry
  obtain ⟨ys, r, ⟨⟨c0, dd, dt, sl⟩, ho, hc, n, hd⟩, _⟩ := I.tuple hT
  simp only at hc hd
  subst hc hd
  refine wpAny_binaryOp_repeat_ref (T := "tuple") (U := "int") (by decide) ⟨_, ho, rfl⟩ (fun s' => typeIs_int s' 1 t) noFill_tuple_mul F.fills_int_mul F.slot_int_rmul repeat_tuple F.slot_int_index.lookup
    (call_meets F.slot_int_rmul (typeIs_int s 1 t) F.entry_int_rmul (F.args_int_rmul_2 _ _) (int_rmul_tuple 1 t l ys.toArray n dd sl)
      ⟨ho, rfl, ⟨_, ho, rfl⟩, call_meets F.slot_tuple_mul ⟨_, ho, rfl⟩ F.entry_tuple_mul (F.args_tuple_mul_2 _ _) (tuple_mul1 l ys.toArray n dd sl t) ⟨ho, ?_⟩⟩)
  exact ⟨.ref l, H, I, rfl, q⟩
theorem op_rep0 : OpR X (binaryOp .Mult) (rRep0 X.K) := by
  intro ps s σ H x y v u Q I rx ry h
  obtain ⟨l, a, rfl, rfl, hT, q⟩ := h
  cases rx
  obtain ⟨t, rfl⟩ := ry
  obtain ⟨ys, r, ⟨⟨c0, dd, dt, sl⟩, ho, hc, n, hd⟩, _⟩ := I.tuple hT
  simp only at hc hd
  subst hc hd
  obtain ⟨w, rfl, _⟩ := vals1 r
  refine wpAny_binaryOp_repeat_ref (T := "tuple") (U := "int") (by decide) ⟨_, ho, rfl⟩ (fun s' => typeIs_int s' 0 t) noFill_tuple_mul F.fills_int_mul F.slot_int_rmul repeat_tuple F.slot_int_index.lookup
    (call_meets F.slot_int_rmul (typeIs_int s 0 t) F.entry_int_rmul (F.args_int_rmul_2 _ _) (int_rmul_tuple 0 t l _ n dd sl)
      ⟨ho, rfl, ⟨_, ho, rfl⟩, call_meets F.slot_tuple_mul ⟨_, ho, rfl⟩ F.entry_tuple_mul (F.args_tuple_mul_2 _ _) (tuple_mul0 l w n dd sl t) ⟨ho, ?_⟩⟩)
  refine ⟨.ref s.heap.objs.size, _, I.laid (t' := s.toks) (o := .tup []) (fun b ob q => Heap.get?_push_of_some _ q) (Nat.le_refl _) ?_, rfl, q _ (I.hok.fresh (Nat.le_refl _))⟩
  exact ⟨Nat.zero_le _, _, .nil, IsTup.new _ _⟩
end
end L2
namespace Ev
open PySem PySem.W L2 PyProof.Rows
section
variable [Tab] {X : Cx}
theorem wlist_sq {K : Frg} {mg : Str → Option Value} {r : List Addr} {H H0 : Hp} {M : Mem} (R : Rel K mg r H M) {x : A} {y : V} (q : RA K H0 r H x y) {ds : List D} (h : wlistOf M x = some ds) :
    ∃ p vs, y = .ref p ∧ RVs K r H ds vs ∧ ds.length ≤ sizeLine ∧ H p = some (.lst vs) := by
  unfold wlistOf at h
  split at h
  · cases h
    obtain ⟨p, vs, e, _, _, hp, l, s⟩ := q
    exact ⟨p, vs, e, s, l, hp⟩
  · split at h
    · rename_i n _ es hm
      cases h
      obtain ⟨p, e, hp⟩ := q
      obtain ⟨p', hp', vs, h1, h2, h3⟩ := R.at hm
      rw [hp] at hp'; cases hp'
      exact ⟨p, vs, e, h3, h2, h1⟩
    · cases h
  · cases h
theorem o_add : OpR X (binaryOp .Add) (R2o X.K X.mg .add) := by
  refine (((op_add.or op_catA).or op_add_str).or op_cat).evI fun x y H Q z => ?_
  obtain ⟨r, M, a, b, c, M', H0, H1, R, qa, qb, e, P⟩ := z
  unfold op2 at e
  simp only at e
  split at e
  · rename_i i j
    obtain ⟨rfl, rfl⟩ := Prod.mk.inj (Option.some.inj e)
    cases qa; cases qb
    exact .inl (.inl (.inl ⟨i, j, rfl, rfl, P.at R rfl⟩))
  · rename_i s t
    split at e
    · rename_i hl
      obtain ⟨rfl, rfl⟩ := Prod.mk.inj (Option.some.inj e)
      obtain ⟨p, vs, rfl, hp, l, sv⟩ := qa
      obtain ⟨q, ws, rfl, hq, l', sw⟩ := qb
      have hlen : vs.length + ws.length ≤ sizeLine := by rw [← sv.length, ← sw.length]; exact Nat.le_trans hl line_le
      have hlen2 : (s ++ t).length ≤ sizeLine := by rw [List.length_append]; exact Nat.le_trans hl line_le
      refine .inl (.inl (.inr ⟨p, q, vs, ws, rfl, rfl, SqT.of hp, SqT.of hq, hlen, fun e => ?_, fun _ e => ?_, fun _ _ u hu => ?_⟩))
      · subst e
        have : s = [] := List.eq_nil_of_length_eq_zero sv.length
        subst this
        exact P.at R ⟨q, ws, rfl, hq, l', sw⟩
      · subst e
        have : t = [] := List.eq_nil_of_length_eq_zero sw.length
        subst this
        exact P.at R ⟨p, vs, rfl, hp, hlen2, by rw [List.append_nil]; exact sv⟩
      · have n2 := Nx.upd (o := .tup (vs ++ ws)) R hu
        exact P r _ _ (R.upd (R.off hu) n2) n2 ⟨u, _, rfl, upd_same, hlen2, (sv.append sw).nx R n2⟩
    · cases e
  · rename_i s t
    split at e
    · rename_i hl
      obtain ⟨rfl, rfl⟩ := Prod.mk.inj (Option.some.inj e)
      cases qa; cases qb
      exact .inl (.inr ⟨s, t, rfl, rfl, Nat.le_trans hl line_le, P.at R rfl⟩)
    · cases e
  · split at e
    · rename_i s t hs ht
      split at e
      · rename_i hl
        obtain ⟨rfl, rfl⟩ := Prod.mk.inj (Option.some.inj e)
        obtain ⟨p, vs, rfl, sv, l, hp⟩ := wlist_sq R qa hs
        obtain ⟨q, ws, rfl, sw, l', hq⟩ := wlist_sq R qb ht
        have hlen2 : (s ++ t).length ≤ sizeLine := by rw [List.length_append]; exact Nat.le_trans hl line_le
        refine .inr ⟨p, q, vs, ws, rfl, rfl, hp, hq, by rw [← sv.length, ← sw.length]; exact Nat.le_trans hl line_le, fun u hu => ?_⟩
        have n2 := Nx.upd (o := .lst (vs ++ ws)) R hu
        exact P r _ _ (R.upd (R.off hu) n2) n2 ⟨u, _, rfl, hu, R.off hu, upd_same, hlen2, (sv.append sw).nx R n2⟩
      · cases e
    · cases e
theorem o_sub : OpR X (binaryOp .Sub) (R2o X.K X.mg .sub) := by
  refine op_sub.evI fun x y H Q z => ?_
  obtain ⟨r, M, a, b, c, M', H0, H1, R, qa, qb, e, P⟩ := z
  unfold op2 at e
  simp only at e
  split at e
  · rename_i i j
    obtain ⟨rfl, rfl⟩ := Prod.mk.inj (Option.some.inj e)
    cases qa; cases qb
    exact ⟨i, j, rfl, rfl, P.at R rfl⟩
  · cases e
theorem rep_one {α : Type} (x : α) : ∀ m : Nat, (List.replicate m [x]).flatten = List.replicate m x
  | 0 => rfl
  | m + 1 => by rw [List.replicate_succ, List.replicate_succ, List.flatten_cons, rep_one x m]; rfl
theorem RVs.rep {K : Frg} {r : List Addr} {H : Hp} {d : D} {v : V} (h : RV K r H d v) : ∀ m : Nat, RVs K r H (List.replicate m d) (List.replicate m v)
  | 0 => rfl
  | m + 1 => ⟨v, List.replicate m v, rfl, h, RVs.rep h m⟩
theorem o_mul : OpR X (binaryOp .Mult) (R2o X.K X.mg .mul) := by
  refine ((((op_mul.or op_repT).or op_rep1).or op_rep0).or op_rep).evI fun x y H Q z => ?_
  obtain ⟨r, M, a, b, c, M', H0, H1, R, qa, qb, e, P⟩ := z
  unfold op2 at e
  simp only at e
  split at e
  · rename_i i j
    split at e
    · rename_i hk
      obtain ⟨rfl, rfl⟩ := Prod.mk.inj (Option.some.inj e)
      cases qa; cases qb
      refine .inl (.inl (.inl (.inl ⟨i, j, rfl, rfl, ?_, P.at R rfl⟩)))
      unfold mulOk at hk
      rw [Bool.or_eq_true, Bool.and_eq_true, Bool.and_eq_true, decide_eq_true_eq, decide_eq_true_eq, decide_eq_true_eq, decide_eq_true_eq] at hk
      exact hk
    · cases e
  · rename_i d k
    split at e
    · rename_i hk
      obtain ⟨rfl, rfl⟩ := Prod.mk.inj (Option.some.inj e)
      cases qb
      obtain ⟨p, vs, rfl, hp, l, sv⟩ := qa
      obtain ⟨x0, ws, rfl, hx, hws⟩ := sv
      cases hws
      have hc : k = 0 ∨ k = 1 ∨ 2 ≤ k := by omega
      rcases hc with rfl | rfl | h2
      · refine .inl (.inr ⟨p, x0, rfl, rfl, SqT.of hp, fun u hu => ?_⟩)
        have n2 := Nx.upd (o := .tup []) R hu
        exact P r _ _ (R.upd (R.off hu) n2) n2 ⟨u, _, rfl, upd_same, Nat.zero_le _, rfl⟩
      · exact .inl (.inl (.inr ⟨p, [x0], rfl, rfl, SqT.of hp, P.at R ⟨p, [x0], rfl, hp, l, ⟨x0, [], rfl, hx, rfl⟩⟩⟩))
      · refine .inl (.inl (.inl (.inr ⟨p, k, [x0], rfl, rfl, SqT.of hp, by simp, h2, hk.2, by simp, fun u hu => ?_⟩)))
        rw [rep_one]
        have n2 := Nx.upd (o := .tup (List.replicate k.toNat x0)) R hu
        refine P r _ _ (R.upd (R.off hu) n2) n2 ⟨u, _, rfl, upd_same, ?_, (RVs.rep hx _).nx R n2⟩
        rw [List.length_replicate]
        have : (1000 : Nat) ≤ sizeLine := by decide
        omega
    · cases e
  · rename_i xs k
    split at e
    · rename_i hk
      obtain ⟨rfl, rfl⟩ := Prod.mk.inj (Option.some.inj e)
      cases qb
      obtain ⟨p, vs, rfl, _, _, hp, _, sv⟩ := qa
      have hlen : vs.length * k.toNat ≤ sizeLine := by
        rw [← sv.length]
        exact Nat.le_of_lt (Nat.lt_of_le_of_lt hk.2.2 line_lt)
      refine .inr ⟨p, k, vs, rfl, rfl, hp, by omega, by omega, hlen, fun u hu => ?_⟩
      have n2 := Nx.upd (o := .lst (List.replicate k.toNat vs).flatten) R hu
      have R2 := R.upd (R.off hu) n2
      have hf : ∀ n : Nat, RVs X.K r H (List.replicate n xs).flatten (List.replicate n vs).flatten := fun n => by
        induction n with
        | zero => exact rfl
        | succ n ih =>
          rw [List.replicate_succ, List.replicate_succ, List.flatten_cons, List.flatten_cons]
          exact sv.append ih
      have hl2 : (List.replicate k.toNat xs).flatten.length ≤ sizeLine := by
        rw [List.length_flatten, List.map_replicate, List.sum_replicate_nat, Nat.mul_comm]
        exact Nat.le_of_lt (Nat.lt_of_le_of_lt hk.2.2 line_lt)
      exact P r _ _ R2 n2 ⟨u, _, rfl, hu, R.off hu, upd_same, hl2, (hf _).nx R n2⟩
    · cases e
  · cases e
theorem o_fdiv : OpR X (binaryOp .FloorDiv) (R2o X.K X.mg .fdiv) := by
  refine op_fdiv.evI fun x y H Q z => ?_
  obtain ⟨r, M, a, b, c, M', H0, H1, R, qa, qb, e, P⟩ := z
  unfold op2 at e
  simp only at e
  split at e
  · rename_i i j
    split at e
    · rename_i hk
      obtain ⟨rfl, rfl⟩ := Prod.mk.inj (Option.some.inj e)
      cases qa; cases qb
      exact ⟨i, j, rfl, rfl, hk, P.at R rfl⟩
    · cases e
  · cases e
theorem o_mod : OpR X (binaryOp .Mod) (R2o X.K X.mg .mod) := by
  refine op_mod.evI fun x y H Q z => ?_
  obtain ⟨r, M, a, b, c, M', H0, H1, R, qa, qb, e, P⟩ := z
  unfold op2 at e
  simp only at e
  split at e
  · rename_i i j
    split at e
    · rename_i hk
      obtain ⟨rfl, rfl⟩ := Prod.mk.inj (Option.some.inj e)
      cases qa; cases qb
      exact ⟨i, j, rfl, rfl, hk, P.at R rfl⟩
    · cases e
  · cases e
theorem o_pow : OpR X (binaryOp .Pow) (R2o X.K X.mg .pow) := by
  refine op_pow.evI fun x y H Q z => ?_
  obtain ⟨r, M, a, b, c, M', H0, H1, R, qa, qb, e, P⟩ := z
  unfold op2 at e
  simp only at e
  split at e
  · rename_i i j
    split at e
    · rename_i hk
      obtain ⟨rfl, rfl⟩ := Prod.mk.inj (Option.some.inj e)
      cases qa; cases qb
      exact ⟨i, j, rfl, rfl, hk, P.at R rfl⟩
    · cases e
  · cases e
theorem o_lt : OpR X (compareOp .Lt) (R2o X.K X.mg .lt) := by
  refine op_lt.evI fun x y H Q z => ?_
  obtain ⟨r, M, a, b, c, M', H0, H1, R, qa, qb, e, P⟩ := z
  unfold op2 at e
  simp only at e
  split at e
  · rename_i i j
    obtain ⟨rfl, rfl⟩ := Prod.mk.inj (Option.some.inj e)
    cases qa; cases qb
    exact ⟨i, j, rfl, rfl, P.at R rfl⟩
  · cases e
theorem o_le : OpR X (compareOp .LtE) (R2o X.K X.mg .le) := by
  refine op_le.evI fun x y H Q z => ?_
  obtain ⟨r, M, a, b, c, M', H0, H1, R, qa, qb, e, P⟩ := z
  unfold op2 at e
  simp only at e
  split at e
  · rename_i i j
    obtain ⟨rfl, rfl⟩ := Prod.mk.inj (Option.some.inj e)
    cases qa; cases qb
    exact ⟨i, j, rfl, rfl, P.at R rfl⟩
  · cases e
theorem o_gt : OpR X (compareOp .Gt) (R2o X.K X.mg .gt) := by
  refine op_gt.evI fun x y H Q z => ?_
  obtain ⟨r, M, a, b, c, M', H0, H1, R, qa, qb, e, P⟩ := z
  unfold op2 at e
  simp only at e
  split at e
  · rename_i i j
    obtain ⟨rfl, rfl⟩ := Prod.mk.inj (Option.some.inj e)
    cases qa; cases qb
    exact ⟨i, j, rfl, rfl, P.at R rfl⟩
  · cases e
theorem o_ge : OpR X (compareOp .GtE) (R2o X.K X.mg .ge) := by
  refine op_ge.evI fun x y H Q z => ?_
  obtain ⟨r, M, a, b, c, M', H0, H1, R, qa, qb, e, P⟩ := z
  unfold op2 at e
  simp only at e
  split at e
  · rename_i i j
    obtain ⟨rfl, rfl⟩ := Prod.mk.inj (Option.some.inj e)
    cases qa; cases qb
    exact ⟨i, j, rfl, rfl, P.at R rfl⟩
  · cases e
theorem decide_non {x : D} {v : V} {K : Frg} {r : List Addr} {H : Hp} (h : RV K r H x v) : decide (v = V.non) = decide (x = .non) := by
  cases x with
  | non => cases h; rfl
  | bl _ => cases h; rfl
  | int _ => cases h; rfl
  | str _ => cases h; rfl
  | tup _ => obtain ⟨a, vs, rfl, _⟩ := h; rfl
  | fz _ => obtain ⟨a, vs, rfl, _⟩ := h; rfl
  | xt _ => obtain ⟨a, vs, rfl, _⟩ := h; rfl
  | ref _ => obtain ⟨a, rfl, _⟩ := h; rfl
theorem o_is : OpR X (compareOp .Is) (R2o X.K X.mg .is) := by
  refine (op_isN.or op_is_bl).evI fun x y H Q z => ?_
  obtain ⟨r, M, a, b, c, M', H0, H1, R, qa, qb, e, P⟩ := z
  unfold op2 at e
  simp only at e
  split at e
  · obtain ⟨rfl, rfl⟩ := Prod.mk.inj (Option.some.inj e)
    cases qb
    exact .inl ⟨rfl, by rw [decide_non qa]; exact P.at R rfl⟩
  · rename_i i j
    obtain ⟨rfl, rfl⟩ := Prod.mk.inj (Option.some.inj e)
    cases qa; cases qb
    exact .inr ⟨i, j, rfl, rfl, P.at R rfl⟩
  · cases e
theorem o_isnot : OpR X (compareOp .IsNot) (R2o X.K X.mg .isnot) := by
  refine (op_notN.or op_isnot_bl).evI fun x y H Q z => ?_
  obtain ⟨r, M, a, b, c, M', H0, H1, R, qa, qb, e, P⟩ := z
  unfold op2 at e
  simp only at e
  split at e
  · obtain ⟨rfl, rfl⟩ := Prod.mk.inj (Option.some.inj e)
    cases qb
    exact .inl ⟨rfl, by rw [decide_non qa]; exact P.at R rfl⟩
  · rename_i i j
    obtain ⟨rfl, rfl⟩ := Prod.mk.inj (Option.some.inj e)
    cases qa; cases qb
    exact .inr ⟨i, j, rfl, rfl, P.at R rfl⟩
  · cases e
theorem emp_use {K : Frg} {mg : Str → Option Value} {r : List Addr} {H H0 H1 : Hp} {M : Mem} (R : Rel K mg r H M) {a b : A} {x y : V} {c : Bool} (qa : RA K H0 r H a x) (qb : RA K H1 r H b y) (e : emp M a b = some c) :
    ∃ p q vs, x = .ref p ∧ y = .ref q ∧ SqL K H p vs ∧ SqL K H q [] ∧ c = vs.isEmpty := by
  unfold emp at e
  split at e
  · obtain ⟨q, ws, rfl, s2, _, h2⟩ := items_sq R qb (ds := []) rfl
    have hw : ws = [] := s2
    subst hw
    have h2 : SqL K H q [] := by
      rcases h2 with ⟨h, _⟩ | ⟨_, ⟨_, h⟩ | h⟩
      · exact h
      · cases h
      · cases h
    have key : ∀ ds, itemsOf M a = some ds → (∀ es, a ≠ .v (.tup es) ∧ a ≠ .v (.xt es)) → ds.isEmpty = c → ∃ p q' vs, x = .ref p ∧ V.ref q = .ref q' ∧ SqL K H p vs ∧ SqL K H q' [] ∧ c = vs.isEmpty := fun ds hd hn hc => by
      obtain ⟨p, vs, rfl, s1, _, h1⟩ := items_sq R qa hd
      rcases h1 with ⟨h1, _⟩ | ⟨_, ⟨_, h1⟩ | h1⟩
      · refine ⟨p, q, vs, rfl, rfl, h1, h2, ?_⟩
        rw [← hc]
        have := RVs.length s1
        cases ds <;> cases vs <;> first | rfl | simp at this
      · exact ((hn _).1 h1).elim
      · exact ((hn _).2 h1).elim
    split at e
    · rename_i ds
      exact key ds rfl (fun _ => ⟨(fun h => nomatch h), (fun h => nomatch h)⟩) (Option.some.inj e)
    · rename_i n
      split at e
      · rename_i ds hm
        exact key ds (itemsOf_ref hm) (fun _ => ⟨(fun h => nomatch h), (fun h => nomatch h)⟩) (Option.some.inj e)
      · cases e
    · cases e
  · cases e
theorem eqA_use {K : Frg} {mg : Str → Option Value} {r : List Addr} {H H0 H1 : Hp} {M : Mem} (R : Rel K mg r H M) {a b : A} {x y : V} {c : Bool} (qa : RA K H0 r H a x) (qb : RA K H1 r H b y) (e : eqA M a b = some c) :
    (∃ d f, Dp K H x d ∧ Dp K H y f ∧ SeqAt.shaped d = true ∧ SeqAt.shaped f = true ∧ c = PyData.eqv d f) ∨ ∃ p q v vs, x = .ref p ∧ y = .ref q ∧ SqL K H p (v :: vs) ∧ SqL K H q [] ∧ c = false := by
  unfold eqA at e
  split at e
  · rename_i d f hd hf
    split at e
    · rename_i hs
      rw [Bool.and_eq_true] at hs
      cases e
      exact .inl ⟨d, f, qa.dp R hd, qb.dp R hf, hs.1, hs.2, rfl⟩
    · cases e
  · obtain ⟨p, q, vs, rfl, rfl, h1, h2, rfl⟩ := emp_use R qa qb e
    cases vs with
    | nil => exact .inl ⟨.list [], .list [], .lst h1 .nil, .lst h2 .nil, by simp [SeqAt.shaped, PyData.canLay0, PyData.canLayAll0, PyData.depth, PyData.depthAll], by simp [SeqAt.shaped, PyData.canLay0, PyData.canLayAll0, PyData.depth, PyData.depthAll], by simp [PyData.eqv, PyData.eqvAll]⟩
    | cons v vs => exact .inr ⟨p, q, v, vs, rfl, rfl, h1, h2, rfl⟩
theorem o_eq (hu : X.A.units + 64 < cLine) : OpR X (compareOp .Eq) (R2o X.K X.mg .eq) := by
  intro pins s σ H x y v u Q I rx ry z
  obtain ⟨r, M, a, b, c, M', H0, H1, R, qa, qb, e, P⟩ := z
  obtain ⟨k, hk, e2⟩ := Option.map_eq_some_iff.mp (show (eqA M a b).map (fun c => (A.v (.bl c), M)) = some (c, M') from e)
  obtain ⟨rfl, rfl⟩ := Prod.mk.inj e2
  rcases eqA_use R qa qb hk with ⟨d, f, h1, h2, h3, h4, rfl⟩ | ⟨p, q, v', vs, rfl, rfl, h1, h2, rfl⟩
  · obtain ⟨as, r1⟩ := Dp.reads I d x v h1 rx
    obtain ⟨bs, r2⟩ := Dp.reads I f y u h2 ry
    exact PyProof.Rows.eq_dataH r1 r2 h3 h4 hu ⟨.bl _, H, I, rfl, P.at R rfl⟩
  · cases rx
    cases ry
    obtain ⟨its, r1, p1, _⟩ := I.list h1
    obtain ⟨its2, r2, p2, _⟩ := I.list h2
    have hsz : (its.toArray.size != its2.toArray.size) = true := by
      have e1 := r1.length
      have e2 := r2.length
      simp at e1 e2 ⊢
      omega
    exact SeqAt.RcAt.lists_lengths p1.isList p2.isList hsz (by omega) _ _ _ _ ⟨.bl _, H, I, rfl, P.at R rfl⟩
theorem o_ne (hu : X.A.units + 64 < cLine) : OpR X (compareOp .NotEq) (R2o X.K X.mg .ne) := by
  intro pins s σ H x y v u Q I rx ry z
  obtain ⟨r, M, a, b, c, M', H0, H1, R, qa, qb, e, P⟩ := z
  obtain ⟨k, hk, e2⟩ := Option.map_eq_some_iff.mp (show (eqA M a b).map (fun c => (A.v (.bl (!c)), M)) = some (c, M') from e)
  obtain ⟨rfl, rfl⟩ := Prod.mk.inj e2
  rcases eqA_use R qa qb hk with ⟨d, f, h1, h2, h3, h4, rfl⟩ | ⟨p, q, v', vs, rfl, rfl, h1, h2, rfl⟩
  · obtain ⟨as, r1⟩ := Dp.reads I d x v h1 rx
    obtain ⟨bs, r2⟩ := Dp.reads I f y u h2 ry
    exact PyProof.Rows.ne_dataH r1 r2 h3 h4 hu ⟨.bl _, H, I, rfl, P.at R rfl⟩
  · cases rx
    cases ry
    obtain ⟨its, r1, p1, _⟩ := I.list h1
    obtain ⟨its2, r2, p2, _⟩ := I.list h2
    have hsz : (its.toArray.size != its2.toArray.size) = true := by
      have e1 := r1.length
      have e2 := r2.length
      simp at e1 e2 ⊢
      omega
    exact SeqAt.RcNeAt.lists_lengths p1.isList p2.isList hsz (by omega) _ _ _ _ ⟨.bl _, H, I, rfl, P.at R rfl⟩
/-- what is asked of an in -/
theorem inA_use {K : Frg} {mg : Str → Option Value} {r : List Addr} {H H0 H1 : Hp} {M : Mem} (R : Rel K mg r H M) {a b : A} {x y : V} {c : Bool} (qa : RA K H0 r H a x) (qb : RA K H1 r H b y) (e : inA M a b = some c) :
    (∃ d ds, Dp K H x d ∧ (Dp K H y (.list ds) ∨ Dp K H y (.tuple ds)) ∧ SeqAt.shaped d = true ∧ SeqAt.shaped (.list ds) = true ∧ c = ds.any fun z => PyData.eqv z d) ∨
    (∃ p o, y = .ref p ∧ DGet H p x o ∧ c = o.isSome) ∨ ∃ k z, x = .str ⟨#[k]⟩ ∧ y = .str z ∧ c = decide (k ∈ z.cps.toList) := by
  have seq : ∀ ds d, itemsOf M b = some ds → pyOf M a = some d → (D.pures ds && SeqAt.shaped d && SeqAt.shaped (.list (D.pys ds))) = true → c = ((D.pys ds).any fun z => PyData.eqv z d) →
      ∃ d ds, Dp K H x d ∧ (Dp K H y (.list ds) ∨ Dp K H y (.tuple ds)) ∧ SeqAt.shaped d = true ∧ SeqAt.shaped (.list ds) = true ∧ c = ds.any fun z => PyData.eqv z d := fun ds d h1 h2 h3 h4 => by
    rw [Bool.and_eq_true, Bool.and_eq_true] at h3
    obtain ⟨⟨g1, g2⟩, g3⟩ := h3
    obtain ⟨p, vs, rfl, sv, l, hs⟩ := items_sq R qb h1
    refine ⟨d, D.pys ds, qa.dp R h2, ?_, g2, g3, h4⟩
    rcases hs with ⟨hs, _⟩ | ⟨hs, _⟩
    · exact .inl (.lst hs (sv.dp g1))
    · exact .inr (.tup hs (sv.dp g1))
  unfold inA at e
  split at e
  · rename_i n
    split at e
    · rename_i ds hm
      split at e
      · rename_i d hd
        split at e
        · rename_i hc
          cases e
          exact .inl (seq ds d (itemsOf_ref hm) hd hc rfl)
        · cases e
      · cases e
    · rename_i t kvs hm
      split at e
      · rename_i k
        split at e
        · rename_i hk
          cases e
          obtain ⟨p, rfl, hp⟩ := qb
          obtain ⟨p', o, hp', _, hg, ho⟩ := dic_get R hm hk qa
          rw [hp] at hp'; cases hp'
          refine .inr (.inl ⟨p, o, rfl, hg, ?_⟩)
          rcases ho with ⟨h1, h2⟩ | ⟨d, x2, h1, h2, _⟩
          · rw [h1, h2]; rfl
          · rw [h1, h2]; rfl
        · cases e
      · cases e
    · rename_i t ks hm
      exact (R.at hm).elim fun p hp => hp.2.elim
    · cases e
  · split at e
    · rename_i x'
      split at e
      · rename_i k hk
        cases e
        cases qa; cases qb
        refine .inr (.inr ⟨k, _, ?_, rfl, rfl⟩)
        have : x'.cps = #[k] := by rw [← Array.toList_inj, hk]
        obtain ⟨cps⟩ := x'
        have this : cps = #[k] := this
        rw [this]
      · cases e
    · cases e
  · split at e
    · rename_i ds d hds hd
      split at e
      · rename_i hc
        cases e
        exact .inl (seq ds d hds hd hc rfl)
      · cases e
    · cases e
theorem o_in (hu : X.A.units + 70 < cLine) : OpR X (compareOp .In) (R2o X.K X.mg .isin) := by
  intro pins s σ H x y v u Q I rx ry z
  obtain ⟨r, M, a, b, c, M', H0, H1, R, qa, qb, e, P⟩ := z
  obtain ⟨k, hk, e2⟩ := Option.map_eq_some_iff.mp (show (inA M a b).map (fun c => (A.v (.bl c), M)) = some (c, M') from e)
  obtain ⟨rfl, rfl⟩ := Prod.mk.inj e2
  have fin : Q (.bl k) H := P.at R rfl
  rcases inA_use R qa qb hk with ⟨d, ds, h1, h2, h3, h4, rfl⟩ | ⟨p, o, rfl, hg, rfl⟩ | ⟨k', z, rfl, rfl, rfl⟩
  · obtain ⟨as, r1⟩ := Dp.reads I d x v h1 rx
    have hr := room_in_shaped (A := X.A) (xs := ds) h3 (by omega)
    rcases h2 with h2 | h2
    · obtain ⟨bs, r2⟩ := Dp.reads I (.list ds) y u h2 ry
      exact SeqAt.in_list_reads r2 r1 (SeqAt.canLay_of_shaped h4) (SeqAt.canLay_of_shaped h3) hr ⟨.bl _, H, I, rfl, fin⟩
    · obtain ⟨bs, r2⟩ := Dp.reads I (.tuple ds) y u h2 ry
      exact SeqAt.in_tuple_reads r2 r1 (SeqAt.canLay_of_shaped h4) (SeqAt.canLay_of_shaped h3) hr ⟨.bl _, H, I, rfl, fin⟩
  · cases ry
    exact d_in (by omega) I hg rx fun s' I' => ⟨.bl _, H, I', rfl, fin⟩
  · exact op_in_sign pins s σ H _ _ v u Q I rx ry ⟨k', z, rfl, rfl, fin⟩
theorem o_notin (hu : X.A.units + 70 < cLine) : OpR X (compareOp .NotIn) (R2o X.K X.mg .notin) := by
  intro pins s σ H x y v u Q I rx ry z
  obtain ⟨r, M, a, b, c, M', H0, H1, R, qa, qb, e, P⟩ := z
  obtain ⟨k, hk, e2⟩ := Option.map_eq_some_iff.mp (show (inA M a b).map (fun c => (A.v (.bl (!c)), M)) = some (c, M') from e)
  obtain ⟨rfl, rfl⟩ := Prod.mk.inj e2
  have fin : Q (.bl (!k)) H := P.at R rfl
  rcases inA_use R qa qb hk with ⟨d, ds, h1, h2, h3, h4, rfl⟩ | ⟨p, o, rfl, hg, rfl⟩ | ⟨k', z, rfl, rfl, rfl⟩
  · obtain ⟨as, r1⟩ := Dp.reads I d x v h1 rx
    have hr := room_in_shaped (A := X.A) (xs := ds) h3 (by omega)
    rcases h2 with h2 | h2
    · obtain ⟨bs, r2⟩ := Dp.reads I (.list ds) y u h2 ry
      exact SeqAt.notIn_list_reads r2 r1 (SeqAt.canLay_of_shaped h4) (SeqAt.canLay_of_shaped h3) hr ⟨.bl _, H, I, rfl, fin⟩
    · obtain ⟨bs, r2⟩ := Dp.reads I (.tuple ds) y u h2 ry
      exact SeqAt.notIn_tuple_reads r2 r1 (SeqAt.canLay_of_shaped h4) (SeqAt.canLay_of_shaped h3) hr ⟨.bl _, H, I, rfl, fin⟩
  · cases ry
    exact d_notIn (by omega) I hg rx fun s' I' => ⟨.bl _, H, I', rfl, fin⟩
  · exact op_notIn_sign pins s σ H _ _ v u Q I rx ry ⟨k', z, rfl, rfl, fin⟩
end
end Ev
namespace Ev
open PySem PySem.W L2 PyProof.Rows
/-! ### what a walk draws -/
structure DrawsOk [Tab] (K : Frg) (mg : Str → Option Value) (J : L2.It) (r0 : List Addr) (H0 : Hp) (ds : List D) (g : Option (Nat × MO)) : Prop where
  go : ∀ r H M, Rel K mg r H M → Nx r0 H0 r H → still M g = true → ∀ i, i < ds.length → J.go i H ∧ ∀ x H', J.yld i H x H' → H' = H ∧ ∀ d, ds[i]? = some d → RV K r H d x
  stop : ∀ r H M, Rel K mg r H M → Nx r0 H0 r H → still M g = true → J.stop ds.length H
def TrI [Tab] (cf : Cf) (K : Frg) (mg : Str → Option Value) (it : Ev.It) : TI := fun σ H R => ∃ r v M p M', Fr0 K mg σ H r v M ∧ evIt cf it v M = some (p, M') ∧
  ∀ r' H' J, Rel K mg r' H' M' → Nx r H r' H' → p.1.length ≤ sizeLine → DrawsOk K mg J r' H' p.1 p.2 → R J H'
theorem _root_.L2.PI.evI {X : Cx} {tg it : Expr} {t t' : TI} (h : PI X tg it t) (i : ∀ σ H Q, t' σ H Q → t σ H Q) : PI X tg it t' := ⟨fun pins s σ H Q I q => h.run pins s σ H Q I (i _ _ _ q)⟩
theorem _root_.L2.PI.evOr {X : Cx} {tg it : Expr} {t t' : TI} (h : PI X tg it t) (h' : PI X tg it t') : PI X tg it (fun σ H Q => t σ H Q ∨ t' σ H Q) := ⟨fun pins s σ H Q I q => q.elim (h.run pins s σ H Q I) (h'.run pins s σ H Q I)⟩
section
variable [Tab] {X : Cx} {cf : Cf} {e a b c o tg : Expr} {ca cb cc co ce : E} {pos p : Pos}
theorem draws_list {K : Frg} {mg : Str → Option Value} {q : Addr} {r0 : List Addr} {H0 : Hp} {ds : List D} {g : Option (Nat × MO)} (h : ∀ r H M, Rel K mg r H M → Nx r0 H0 r H → still M g = true → ∃ vs, SqL K H q vs ∧ RVs K r H ds vs) : DrawsOk K mg (Itl K q) r0 H0 ds g where
  go := fun r H M R n st i hi => by
    obtain ⟨vs, hs, sv⟩ := h r H M R n st
    obtain ⟨x, h1, h2⟩ := sv.get (List.getElem?_eq_getElem hi)
    refine ⟨⟨vs, x, hs, h1⟩, fun y H' ⟨hy, hy2⟩ => ⟨hy, fun d hd => ?_⟩⟩
    have := hy2 vs hs
    rw [h1] at this
    cases this
    rw [List.getElem?_eq_getElem hi] at hd
    cases hd
    exact h2
  stop := fun r H M R n st => by
    obtain ⟨vs, hs, sv⟩ := h r H M R n st
    exact ⟨vs, hs, by rw [sv.length]; exact Nat.le_refl _⟩
theorem draws_tup {K : Frg} {mg : Str → Option Value} {q : Addr} {r0 : List Addr} {H0 : Hp} {ds : List D} {g : Option (Nat × MO)} (h : ∀ r H M, Rel K mg r H M → Nx r0 H0 r H → still M g = true → ∃ vs, SqT K H q vs ∧ RVs K r H ds vs) : DrawsOk K mg (Itt K q) r0 H0 ds g where
  go := fun r H M R n st i hi => by
    obtain ⟨vs, hs, sv⟩ := h r H M R n st
    obtain ⟨x, h1, h2⟩ := sv.get (List.getElem?_eq_getElem hi)
    refine ⟨⟨vs, x, hs, h1⟩, fun y H' ⟨hy, hy2⟩ => ⟨hy, fun d hd => ?_⟩⟩
    have := hy2 vs hs
    rw [h1] at this
    cases this
    rw [List.getElem?_eq_getElem hi] at hd
    cases hd
    exact h2
  stop := fun r H M R n st => by
    obtain ⟨vs, hs, sv⟩ := h r H M R n st
    exact ⟨vs, hs, by rw [sv.length]; exact Nat.le_refl _⟩
theorem ci_ex (ha : CE X cf a ca) : PI X tg a (TrI cf X.K X.mg (.ex ca)) := by
  refine ((pi_list ha.pe).evOr (pi_tup ha.pe)).evI fun σ H Q z => ?_
  obtain ⟨r, v, M, pr, M', F, e, P⟩ := z
  unfold evIt at e
  obtain ⟨x, N1, g1, e1⟩ := bnd_eq e
  obtain ⟨ds, hd, e2⟩ := Option.map_eq_some_iff.mp e1
  obtain ⟨rfl, rfl⟩ := Prod.mk.inj e2
  have go : ∀ r1 H1 x1, Rel X.K X.mg r1 H1 N1 → Nx r H r1 H1 → RA X.K H r1 H1 x x1 → (∃ q, x1 = .ref q ∧ (∃ vs, SqL X.K H1 q vs) ∧ Q (Itl X.K q) H1) ∨ ∃ es, x = .v (.tup es) ∨ x = .v (.xt es) := fun r1 H1 x1 R1 n1 q1 => by
    obtain ⟨q, vs, rfl, sv, hl, hs⟩ := items_sq R1 q1 hd
    rcases hs with ⟨hs, hnt⟩ | ⟨_, ⟨_, hx⟩ | hx⟩
    · refine .inl ⟨q, rfl, ⟨vs, hs⟩, P r1 H1 _ R1 n1 hl (draws_list fun r2 H2 M2 R2 n2 st => ?_)⟩
      cases x with
      | l es =>
        cases hd
        obtain ⟨q', vs', e', _, hq, h1, _, s'⟩ := q1
        cases e'
        exact ⟨vs', SqL.of (n2.fr _ _ h1 hq), s'.nx R1 n2⟩
      | v d =>
        cases d with
        | fz es =>
          cases hd
          obtain ⟨q', vs', e', h1, _, s'⟩ := q1
          cases e'
          exact ⟨vs', (FzL.wk (n2.wk R1) h1).sq, s'.nx R1 n2⟩
        | tup es' => exact ((hnt es').1 rfl).elim
        | xt es' => exact ((hnt es').2 rfl).elim
        | ref n =>
          have hd' : (match N1[n]? with
            | some (.lst ds) => some ds
            | _ => none) = some ds := hd
          split at hd'
          · rename_i es hm
            cases hd'
            obtain ⟨q', e', hq'⟩ := q1
            cases e'
            have st' : M2[n]? = some (.lst ds) := by
              have : still M2 ((N1[n]?).map fun o => (n, o)) = true := st
              rw [hm] at this
              exact of_decide_eq_true this
            obtain ⟨p', hp', vs2, k1, k2, k3⟩ := R2.at st'
            rw [n2.get hq'] at hp'; cases hp'
            exact ⟨vs2, SqL.of k1, k3⟩
          · cases hd'
        | non => cases hd
        | bl _ => cases hd
        | int _ => cases hd
        | str _ => cases hd
    · exact .inr ⟨ds, .inl hx⟩
    · exact .inr ⟨ds, .inr hx⟩
  by_cases ht : ∃ es, x = .v (.tup es) ∨ x = .v (.xt es)
  · obtain ⟨es, rfl | rfl⟩ := ht
    rotate_left
    · cases hd
      refine .inr ⟨r, v, M, _, _, F, g1, fun r1 H1 x1 R1 n1 q1 => ?_⟩
      obtain ⟨q, vs, rfl, ⟨o, hq, ho⟩, hl, s⟩ := q1
      exact ⟨q, rfl, ⟨vs, .inl (.inr ⟨o, hq⟩)⟩, P r1 H1 _ R1 n1 hl (draws_tup fun r2 H2 M2 R2 n2 st => ⟨vs, .inl (.inr ⟨o, n2.fr _ _ hq (R1.out hq fun z => z)⟩), s.nx R1 n2⟩)⟩
    cases hd
    refine .inr ⟨r, v, M, _, _, F, g1, fun r1 H1 x1 R1 n1 q1 => ?_⟩
    obtain ⟨q, vs, rfl, hq, hl, s⟩ := q1
    exact ⟨q, rfl, ⟨vs, SqT.of hq⟩, P r1 H1 _ R1 n1 hl (draws_tup fun r2 H2 M2 R2 n2 st => ⟨vs, SqT.of (n2.fr _ _ hq (R1.out hq fun z => z)), s.nx R1 n2⟩)⟩
  · exact .inl ⟨r, v, M, _, _, F, g1, fun r1 H1 x1 R1 n1 q1 => (go r1 H1 x1 R1 n1 q1).resolve_right ht⟩
theorem rangeD_length (i j : Int) : (rangeD i j).length = (j - i).toNat := by simp [rangeD]
theorem rangeD_get {i j : Int} {k : Nat} {d : D} (h : (rangeD i j)[k]? = some d) : d = .int (i + k) := by
  unfold rangeD at h
  rw [List.getElem?_map] at h
  cases q : (List.range (j - i).toNat)[k]? with
  | none => rw [q] at h; cases h
  | some m =>
    rw [q] at h
    cases h
    have := List.getElem?_eq_some_iff.mp q
    obtain ⟨hl, e⟩ := this
    rw [List.getElem_range] at e
    subst e
    rfl
theorem draws_rng {K : Frg} {mg : Str → Option Value} {i j : Int} {r0 : List Addr} {H0 : Hp} : DrawsOk K mg (Itr i (j - i).toNat) r0 H0 (rangeD i j) none where
  go := fun r H M R n st k hk => by
    rw [rangeD_length] at hk
    refine ⟨hk, fun x H' ⟨h1, h2⟩ => ⟨h1, fun d hd => ?_⟩⟩
    rw [rangeD_get hd]
    exact h2
  stop := fun r H M R n st => by
    rw [rangeD_length]
    exact Nat.le_refl _
theorem rng_pow {i : Int} (h : -(2 ^ 60) ≤ i ∧ i < 2 ^ 60) : -(2 ^ 62) ≤ i ∧ i < 2 ^ 62 := by
  obtain ⟨h1, h2⟩ := h
  constructor <;> omega
theorem line_toNat {i : Int} (h : i ≤ (line : Nat)) : i.toNat ≤ sizeLine := by
  have := line_le
  omega
theorem ci_rng1 (hb : CE X cf b cb) (hg : Gl X "range") (hm : X.mg "range" = none) (hs : noStar b = true) : PI X tg (.Call (.Name "range" p) [b] [] pos) (TrI cf X.K X.mg (.rng (.cst (.int 0)) cb)) := by
  refine (pi_range1 hg hm (pa_cons hb.pe pa_nil (star_cons hs)) (star_cons hs)).evI fun σ H Q z => ?_
  obtain ⟨r, v, M, pr, M', F, e, P⟩ := z
  unfold evIt at e
  obtain ⟨x, N1, g1, e1⟩ := bnd_eq e
  obtain ⟨rfl, rfl⟩ := Prod.mk.inj (Option.some.inj g1)
  obtain ⟨y, N2, g2, e2⟩ := bnd_eq e1
  split at e2
  · rename_i i j hi
    cases hi
    split at e2
    · rename_i hc
      obtain ⟨rfl, rfl⟩ := Prod.mk.inj (Option.some.inj e2)
      refine ⟨r, v, M, _, N2, F, g2, fun r1 H1 x1 R1 n1 q1 => ?_⟩
      cases q1
      obtain ⟨c1, c2, c3, c4, c5⟩ := hc
      have c34 := rng_pow ⟨c3, c4⟩
      refine ⟨j, rfl, c34.1, c34.2, ?_⟩
      have := P r1 H1 (Itr 0 (j - 0).toNat) R1 n1 (by show (rangeD 0 j).length ≤ _; rw [rangeD_length]; exact line_toNat c5) draws_rng
      rw [Int.sub_zero] at this
      exact this
    · cases e2
  · cases e2
theorem ci_rng2 (ha : CE X cf a ca) (hb : CE X cf b cb) (hg : Gl X "range") (hm : X.mg "range" = none) (hs : noStar a = true) (hs2 : noStar b = true) : PI X tg (.Call (.Name "range" p) [a, b] [] pos) (TrI cf X.K X.mg (.rng ca cb)) := by
  refine (pi_range2 hg hm (pa_cons ha.pe (pa_cons hb.pe pa_nil (star_cons hs2)) (star_cons hs)) ((star_cons hs).trans (by rw [star_cons hs2]; rfl)) (star_cons hs2)).evI fun σ H Q z => ?_
  obtain ⟨r, v, M, pr, M', F, e, P⟩ := z
  unfold evIt at e
  obtain ⟨x, N1, g1, e1⟩ := bnd_eq e
  obtain ⟨y, N2, g2, e2⟩ := bnd_eq e1
  split at e2
  · rename_i i j
    split at e2
    · rename_i hc
      obtain ⟨rfl, rfl⟩ := Prod.mk.inj (Option.some.inj e2)
      refine ⟨r, v, M, _, N1, F, g1, fun r1 H1 x1 R1 n1 q1 => ⟨r1, v, N1, _, N2, F.nx R1 n1, g2, fun r2 H2 x2 R2 n2 q2 => ?_⟩⟩
      cases q1
      cases q2
      obtain ⟨c1, c2, c3, c4, c5⟩ := hc
      have c12 := rng_pow ⟨c1, c2⟩
      have c34 := rng_pow ⟨c3, c4⟩
      exact ⟨i, j, rfl, ⟨c12.1, c12.2, c34.1, c34.2⟩, P r2 H2 (Itr i (j - i).toNat) R2 (n1.trans F.1 n2) (by show (rangeD i j).length ≤ _; rw [rangeD_length]; exact line_toNat c5) draws_rng⟩
    · cases e2
  · cases e2
/-! ### targets -/
mutual
def slotsT : Tg → List Nat
  | .nm i => [i]
  | .tp ts => slotsTs ts
def slotsTs : List Tg → List Nat
  | [] => []
  | t :: ts => slotsT t ++ slotsTs ts
end
def OffS (is : List Nat) (σ σ' : L2.St) : Prop := σ'.length = σ.length ∧ ∀ j, j ∉ is → σ'[j]? = σ[j]?
theorem OffS.trans {is js : List Nat} {σ σ' σ'' : L2.St} (h : OffS is σ σ') (h' : OffS js σ' σ'') : OffS (is ++ js) σ σ'' :=
  ⟨h'.1.trans h.1, fun j hj => by rw [List.mem_append, not_or] at hj; exact (h'.2 j hj.2).trans (h.2 j hj.1)⟩
def TrG (K : Frg) (t : Tg) : TG := fun x σ H Q => ∃ r v d v2, RE K r H v σ ∧ RV K r H d x ∧ asgT t d v = some v2 ∧ ∀ σ2, RE K r H v2 σ2 → OffS (slotsT t) σ σ2 → Q σ2 H
def TrGs (K : Frg) (ts : List Tg) : TGs := fun xs σ H Q => ∃ r v ds v2, RE K r H v σ ∧ RVs K r H ds xs ∧ asgTs ts ds v = some v2 ∧ ∀ σ2, RE K r H v2 σ2 → OffS (slotsTs ts) σ σ2 → Q σ2 H
theorem _root_.L2.PG.evI {X : Cx} {e : Expr} {t t' : TG} (h : PG X e t) (i : ∀ v σ H Q, t' v σ H Q → t v σ H Q) : PG X e t' := ⟨fun pins s σ H v u Q I r q => h.run pins s σ H v u Q I r (i _ _ _ _ q)⟩
theorem _root_.L2.PGs.evI {X : Cx} {es : List Expr} {t t' : TGs} (h : PGs X es t) (i : ∀ v σ H Q, t' v σ H Q → t v σ H Q) : PGs X es t' := ⟨fun pins s σ H v u Q I r q => h.run pins s σ H v u Q I r (i _ _ _ _ q)⟩
theorem cg_nm {i : Nat} {x : Str} (hN : X.N.Nodup) (hi : X.N[i]? = some x) (hx : Loc X.env.scope x) (hf : X.fn x = true ∨ X.env.scope.names.lookup x = some .local) : PG X (.Name x pos) (TrG X.K (.nm i)) :=
  (pg_name hN hi hx hf).evI fun y σ H Q z => by
    obtain ⟨r, v, d, v2, hE, hv, e, P⟩ := z
    have e : (if i < v.length then some (v.set i (some d)) else none) = some v2 := e
    split at e
    · cases e
      exact P _ (hE.set i hv) ⟨by simp, fun j hj => by
        have : i ≠ j := fun q => hj (by rw [q]; exact .head _)
        rw [List.getElem?_set_ne this]⟩
    · cases e
theorem cg_nil : PGs X [] (TrGs X.K []) := pgs_nil.evI fun xs σ H Q z => by
  obtain ⟨r, v, ds, v2, hE, hv, e, P⟩ := z
  cases ds with
  | nil => cases e; cases hv; exact ⟨rfl, P σ hE ⟨rfl, fun _ _ => rfl⟩⟩
  | cons d ds => cases e
theorem assign_cons {es : List Expr} {env : PySem.Env} (h : noStar e = true) : (assignEach (e :: es) env).map (·.2) = assign e env :: (assignEach es env).map (·.2) := by
  cases e <;> first | rfl | cases h
theorem assign_none {env : PySem.Env} : ∀ {es : List Expr}, es.all noStar = true → (assignEach es env).findIdx? (·.1) = none ∧ (assignEach es env).length = es.length
  | [], _ => ⟨rfl, rfl⟩
  | e :: es, h => by
    rw [List.all_cons, Bool.and_eq_true] at h
    have ih := assign_none (env := env) h.2
    have : assignEach (e :: es) env = (false, assign e env) :: assignEach es env := by
      have h1 := h.1
      cases e <;> first | rfl | cases h1
    rw [this]
    refine ⟨?_, by simp [ih.2]⟩
    rw [List.findIdx?_cons, ih.1]
    rfl
theorem cg_cons {es : List Expr} {t : Tg} {ts : List Tg} (h1 : PG X e (TrG X.K t)) (h2 : PGs X es (TrGs X.K ts)) (hs : noStar e = true) : PGs X (e :: es) (TrGs X.K (t :: ts)) :=
  (pgs_cons h1 h2 (assign_cons hs)).evI fun xs σ H Q z => by
    obtain ⟨r, v, ds, v2, hE, hv, e, P⟩ := z
    cases ds with
    | nil => cases e
    | cons d ds =>
      obtain ⟨x, ws, rfl, hx, hw⟩ := hv
      have e : (match asgT t d v with
        | some v' => asgTs ts ds v'
        | none => none) = some v2 := e
      split at e
      · rename_i v' hv'
        exact ⟨x, ws, rfl, r, v, d, v', hE, hx, hv', fun σ2 hE2 o2 => ⟨r, v', ds, v2, hE2, hw, e, fun σ3 hE3 o3 => P σ3 hE3 (o2.trans o3)⟩⟩
      · cases e
theorem asgTs_len : ∀ {ts : List Tg} {ds : List D} {v v2 : Env}, asgTs ts ds v = some v2 → ds.length = ts.length
  | [], [], _, _, _ => rfl
  | t :: ts, d :: ds, v, v2, h => by
    have h : (match asgT t d v with
      | some v' => asgTs ts ds v'
      | none => none) = some v2 := h
    split at h
    · rw [List.length_cons, List.length_cons, asgTs_len h]
    · cases h
  | [], _ :: _, _, _, h => nomatch h
  | _ :: _, [], _, _, h => nomatch h
theorem cg_tup {es : List Expr} {k : Nat} {ts : List Tg} (hc : X.calm = true) (h : PGs X es (TrGs X.K ts)) (hs : es.all noStar = true) (hl : es.length = ts.length) : PG X (.Tuple es k pos) (TrG X.K (.tp ts)) :=
  (pg_tup (n := es.length) hc h (assign_none hs).2 (assign_none hs).1).evI fun x σ H Q z => by
    obtain ⟨r, v, d, v2, hE, hv, e, P⟩ := z
    cases d with
    | tup ds =>
      have e : asgTs ts ds v = some v2 := e
      obtain ⟨a, xs, rfl, hp, hl2, sv⟩ := hv
      exact ⟨a, xs, rfl, SqT.of hp, by rw [← sv.length, asgTs_len e, hl], r, v, ds, v2, hE, sv, e, P⟩
    | _ => cases e
/-! ### comprehensions -/
theorem wipe_off {σ σ' : L2.St} {is : List Nat} : ∀ (vs : List Nat), OffS is σ σ' → (∀ i ∈ is, i ∈ vs) → wipe σ' vs = wipe σ vs := fun vs h hi => by
  apply List.ext_getElem?
  intro j
  have out : ∀ (σ : L2.St) (vs : List Nat), j ∉ vs → (wipe σ vs)[j]? = σ[j]? := fun σ vs => by
    induction vs with
    | nil => intro _; rfl
    | cons v vs ih =>
      intro hj
      rw [List.mem_cons, not_or] at hj
      unfold wipe
      rw [List.getElem?_set_ne (Ne.symm hj.1)]
      exact ih hj.2
  have inn : ∀ (σ : L2.St) (vs : List Nat), j ∈ vs → (wipe σ vs)[j]? = if j < σ.length then some none else none := fun σ vs => by
    induction vs with
    | nil => intro h; cases h
    | cons v vs ih =>
      intro hj
      unfold wipe
      by_cases hv : v = j
      · subst hv
        by_cases hl : v < σ.length
        · rw [List.getElem?_set_self (by rw [wipe_length]; exact hl), if_pos hl]
        · rw [List.getElem?_eq_none (by rw [List.length_set, wipe_length]; omega), if_neg hl]
      · rw [List.getElem?_set_ne hv]
        rcases List.mem_cons.mp hj with e | hj
        · exact absurd e.symm hv
        · exact ih hj
  by_cases hj : j ∈ vs
  · rw [inn _ _ hj, inn _ _ hj, h.1]
  · rw [out _ _ hj, out _ _ hj, h.2 j fun q => hj (hi j q)]
theorem wipe_wipe {σ : L2.St} (vs : List Nat) : wipe (wipe σ vs) vs = wipe σ vs := by
  have out : ∀ (vs : List Nat) (j : Nat), j ∉ vs → (wipe σ vs)[j]? = σ[j]? := fun vs j => by
    induction vs with
    | nil => intro _; rfl
    | cons v vs ih =>
      intro hj
      rw [List.mem_cons, not_or] at hj
      unfold wipe
      rw [List.getElem?_set_ne (Ne.symm hj.1)]
      exact ih hj.2
  have : OffS vs (wipe σ vs) σ := ⟨by rw [wipe_length], fun j hj => (out vs j hj).symm⟩
  exact (wipe_off vs this fun _ h => h).symm
/-- a thing that the memory does not hold is turned -/
theorem Wk.turn {r : List Addr} {H : Hp} {p : Addr} {u o : HO} (h : H p = some u) (m : Mut (some u)) : Wk r H r (L2.upd H p o) :=
  ⟨⟨[], by simp⟩, fun b w e n => by rw [upd_ne (show b ≠ p by intro q; subst q; rw [h] at e; cases e; exact n m)]; exact e⟩
theorem Rel.turn {K : Frg} {mg : Str → Option Value} {r : List Addr} {H : Hp} {M : Mem} (R : Rel K mg r H M) {p : Addr} {u o : HO} (hp : p ∉ r) (h : H p = some u) (m : Mut (some u)) : Rel K mg r (L2.upd H p o) M :=
  ⟨R.len, R.nd, fun i a w hi hw => RO.wk (Wk.turn h m) (upd_ne fun q => hp (q ▸ List.mem_of_getElem? hi)) (R.ob i a w hi hw)⟩
theorem Nx.turn {K : Frg} {mg : Str → Option Value} {r r' : List Addr} {H H' : Hp} (n : Nx r H r' H') {p : Addr} {o : HO} (hp : p ∉ r') (h : H p = Option.none) : Nx r H r' (L2.upd H' p o) :=
  ⟨n.pre, fun b w e hb => by rw [upd_ne (ne_of_none e h)]; exact n.fr b w e hb, n.new⟩
theorem lc_all (J : L2.It) (g : TG) (tt : TT) (te : TE) (vs : List Nat) (σ : L2.St) (H1 : Hp) (D : Addr) (Qd : Hp → Prop) {t : Tg} {ds res : List Ev.D} {gd : Option (Nat × MO)} {v : Env} {M1 Me : Mem} {r1 : List Addr} {cc ce : E}
    (hg : g = TrG X.K t) (htt : tt = TrB cf X.K X.mg cc) (hte : te = TrD cf X.K X.mg ce) (hsub : ∀ i ∈ slotsT t, i ∈ vs)
    (F : Fr0 X.K X.mg σ H1 r1 v M1) (hD : H1 D = none) (hz : ds.length ≤ sizeLine) (dr : DrawsOk X.K X.mg J r1 H1 ds gd)
    (hrun : lcLoop (fun d M => match asgT t d (wipeE v vs) with
      | some v2 => bnd (ev cf cc v2 M) fun x M => bnd (toB x M) fun b M => if b = true then bnd (ev cf ce v2 M) fun y M => bnd (toD y M) fun y M => some (some y, M) else some (none, M)
      | none => none) gd ds M1 = some (res, Me))
    (done : ∀ r H accV, Rel X.K X.mg r H Me → Nx r1 H1 r H → D ∉ r → H D = some (.lst accV) → RVs X.K r H res accV → res.length ≤ sizeLine → Qd H) :
    ∃ W : Nat → Nat → Hp → Prop, (∃ m, W 0 m (L2.upd H1 D (.lst []))) ∧ ∀ i m H, W i m H →
      (J.stop i H ∧ Qd H) ∨ (J.go i H ∧ ∃ Nn : Hp → Prop, (∀ H', Nn H' → ∃ m', m' < m ∧ W (i + 1) m' H') ∧ ∀ x H', J.yld i H x H' → g x (wipe σ vs) H' fun σ2 H2 => wipe σ2 vs = wipe σ vs ∧ tt σ2 H2 fun b H3 =>
        if b = true then te σ2 H3 fun y H4 => ∃ acc, H4 D = some (.lst acc) ∧ acc.length < sizeLine ∧ Nn (L2.upd H4 D (.lst (acc ++ [y]))) else Nn H3) := by
  subst hg htt hte
  let S : Nat → Hp → Prop := fun i H => ∃ r M accD accV rest, Rel X.K X.mg r H M ∧ Nx r1 H1 r H ∧ D ∉ r ∧ H D = some (.lst accV) ∧ RVs X.K r H accD accV ∧ accD.length ≤ i ∧
    lcLoop (fun d M => match asgT t d (wipeE v vs) with
      | some v2 => bnd (ev cf cc v2 M) fun x M => bnd (toB x M) fun b M => if b = true then bnd (ev cf ce v2 M) fun y M => bnd (toD y M) fun y M => some (some y, M) else some (none, M)
      | none => none) gd (ds.drop i) M = some (rest, Me) ∧ accD ++ rest = res
  refine ⟨fun i m H => m = ds.length - i ∧ i ≤ ds.length ∧ S i H, ⟨_, rfl, Nat.zero_le _, ?_⟩, ?_⟩
  · have n2 := Nx.upd (o := .lst []) F.1 hD
    exact ⟨r1, M1, [], [], res, F.1.upd (F.1.off hD) n2, n2, F.1.off hD, upd_same, rfl, Nat.zero_le _, hrun, rfl⟩
  · rintro i m H ⟨rfl, hi, r, M, accD, accV, rest, R, n, hDr, hDl, sv, hai, run, hres⟩
    by_cases hlt : i < ds.length
    · rw [List.drop_eq_getElem_cons hlt] at run
      have st : still M gd = true := by
        unfold lcLoop at run
        split at run
        · assumption
        · cases run
      have run2 : (bnd (match asgT t ds[i] (wipeE v vs) with
        | some v2 => bnd (ev cf cc v2 M) fun x M => bnd (toB x M) fun b M => if b = true then bnd (ev cf ce v2 M) fun y M => bnd (toD y M) fun y M => some (some y, M) else some (none, M)
        | none => none) fun r M1 => bnd (lcLoop (fun d M => match asgT t d (wipeE v vs) with
          | some v2 => bnd (ev cf cc v2 M) fun x M => bnd (toB x M) fun b M => if b = true then bnd (ev cf ce v2 M) fun y M => bnd (toD y M) fun y M => some (some y, M) else some (none, M)
          | none => none) gd (ds.drop (i + 1)) M1) fun rs M2 => match r with
            | some y => some (y :: rs, M2)
            | none => some (rs, M2)) = some (rest, Me) := by
        unfold lcLoop at run
        rw [if_pos st] at run
        exact run
      obtain ⟨ro, Mb, hb, run3⟩ := bnd_eq run2
      obtain ⟨rs, Mc, hl, run4⟩ := bnd_eq run3
      obtain ⟨hgo, hyl⟩ := dr.go r H M R n st i hlt
      refine .inr ⟨hgo, S (i + 1), fun H' s => ⟨_, by omega, rfl, hlt, s⟩, fun x H' hx => ?_⟩
      obtain ⟨rfl, hv⟩ := hyl x H' hx
      have hxv := hv _ (List.getElem?_eq_getElem hlt)
      split at hb
      · rename_i v2 hv2
        refine ⟨r, wipeE v vs, ds[i], v2, (F.2.nx F.1 n).wipe vs, hxv, hv2, fun σ2 hE2 off => ⟨(wipe_off vs off hsub).trans (wipe_wipe vs), ?_⟩⟩
        obtain ⟨k, Mk, hB, hev, hb2⟩ := tB_bnd hb
        refine ⟨r, v2, M, k, Mk, ⟨R, hE2⟩, hB, fun r3 H3 R3 n3 => ?_⟩
        have hD3 : H3 D = some (.lst accV) := n3.fr _ _ hDl hDr
        have hDr3 : D ∉ r3 := fun q => by have := n3.new D q hDr; rw [hDl] at this; cases this
        cases k with
        | false =>
          rw [if_neg (by decide)] at hb2
          cases hb2
          cases run4
          show (if false = true then _ else S (i + 1) H3)
          rw [if_neg (by decide)]
          exact ⟨r3, Mb, accD, accV, rest, R3, n.trans F.1 n3, hDr3, hD3, sv.nx R n3, Nat.le_succ_of_le hai, hl, hres⟩
        | true =>
          rw [if_pos rfl] at hb2
          show (if true = true then _ else S (i + 1) H3)
          rw [if_pos rfl]
          obtain ⟨y, My, he, hb3⟩ := bnd_eq hb2
          obtain ⟨yd, Mz, hd, hb4⟩ := bnd_eq hb3
          cases hb4
          cases run4
          refine ⟨r3, v2, Mk, yd, Mb, ⟨R3, hE2.nx R n3⟩, by show bnd _ _ = _; rw [he]; exact hd, fun r4 H4 yv R4 n4 q4 => ?_⟩
          have hD4 : H4 D = some (.lst accV) := n4.fr _ _ hD3 hDr3
          have hDr4 : D ∉ r4 := fun q => by have := n4.new D q hDr3; rw [hD3] at this; cases this
          have sv4 := ((sv.nx R n3).nx R3 n4)
          have w := Wk.turn (r := r4) (o := .lst (accV ++ [yv])) hD4 True.intro
          refine ⟨accV, hD4, ?_, r4, Mb, accD ++ [yd], accV ++ [yv], rs, R4.turn hDr4 hD4 True.intro, ?_, hDr4, upd_same, (sv4.append (RVs.one q4)).wk w, ?_, hl, ?_⟩
          · rw [← sv4.length]; omega
          · exact Nx.turn (K := X.K) (mg := X.mg) ((n.trans F.1 n3).trans F.1 n4) hDr4 hD
          · rw [List.length_append, List.length_singleton]; omega
          · rw [List.append_assoc]; exact hres
      · cases hb
    · have e : i = ds.length := by omega
      subst e
      rw [List.drop_length] at run
      unfold lcLoop at run
      split at run
      · rename_i st
        cases run
        rw [List.append_nil] at hres
        subst hres
        exact .inl ⟨dr.stop r H _ R n st, done r H accV R n hDr hDl sv (Nat.le_trans hai hz)⟩
      · cases run
end
end Ev
namespace Ev
open PySem PySem.W L2 PyProof.Rows
section
variable [Tab] {X : Cx} {cf : Cf} {e a b c o tg elt iter : Expr} {ca cb cc co ce : E} {cit : Ev.It} {t : Tg} {ifs : List Expr} {scope : Scope} {own : List (Str × Nat)} {pos p spos py : Pos} {es : List Expr} {ces : Es} {apos : Pos}
theorem tlc_of (hsub : ∀ i ∈ slotsT t, i ∈ own.map (·.2)) (σ : L2.St) (H : Hp) (Q : V → Hp → Prop) (z : TrA cf X.K X.mg (.lc ce t cit cc (own.map (·.2))) σ H Q) :
    tLc (TrI cf X.K X.mg cit) (TrG X.K t) (TrB cf X.K X.mg cc) (TrD cf X.K X.mg ce) (own.map (·.2)) σ H Q := by
  obtain ⟨r, v, M, d, M', F, e, P⟩ := z
  unfold ev at e
  obtain ⟨pr, N1, g1, e1⟩ := bnd_eq e
  obtain ⟨ds, N2, g2, e2⟩ := bnd_eq e1
  obtain ⟨rfl, rfl⟩ := Prod.mk.inj (Option.some.inj e2)
  refine ⟨r, v, M, pr, N1, F, g1, fun r1 H1 J R1 n1 hz dr Dd hD => ?_⟩
  refine lc_all J _ _ _ _ σ H1 Dd (fun H => Q (.ref Dd) H) rfl rfl rfl hsub (F.nx R1 n1) hD hz dr g2 fun r2 H2 accV R2 n2 hDr hDl sv hl => ?_
  exact P r2 H2 _ R2 (n1.trans F.1 n2) ⟨Dd, accV, rfl, n1.none F.1 R1 hD, hDr, hDl, hl, sv⟩
structure LcParts (X : Cx) (cf : Cf) (tg elt iter : Expr) (ifs : List Expr) (scope : Scope) (own : List (Str × Nat)) (ce : E) (t : Tg) (cit : Ev.It) (cc : E) : Prop where
  hi : PI X tg iter (TrI cf X.K X.mg cit)
  ok : BlkOk X.N X.env.scope scope own
  sub : ∀ i ∈ slotsT t, i ∈ own.map (·.2)
  hg : ∀ (s : Shared) (H : Hp) (C : Addr) (cl : List (Str × Addr)) (fp : List Addr), PG (X.blk s H scope (compEnvC scope cl C X.env) fp) tg (TrG X.K t)
  ht : ∀ (s : Shared) (H : Hp) (C : Addr) (cl : List (Str × Addr)) (fp : List Addr), PTs (X.blk s H scope (compEnvC scope cl C X.env) fp) ifs (TrB cf X.K X.mg cc)
  he : ∀ (s : Shared) (H : Hp) (C : Addr) (cl : List (Str × Addr)) (fp : List Addr), PE (X.blk s H scope (compEnvC scope cl C X.env) fp) elt (TrD cf X.K X.mg ce)
  hs : ∀ x, foldedSetIterable iter X.env x = pure x
theorem ce_lc (hc : X.calm = true) (hN : X.N.Nodup) (L : LcParts X cf tg elt iter ifs scope own ce t cit cc) : CE X cf (.ListComp elt [⟨tg, iter, ifs, 0⟩] scope pos) (.lc ce t cit cc (own.map (·.2))) :=
  CE.of ((pe_lc hc hN L.hi L.ok L.hg L.ht L.he L.hs).evI fun σ H Q z => tlc_of L.sub σ H Q z) fun _ => rfl
theorem pts_none {X : Cx} : PTs X [] (TrB cf X.K X.mg (.cst (.bl true))) := ⟨fun pins s σ H Q I z => by
  obtain ⟨r, v, M, d, M', F, e, P⟩ := z
  cases e
  exact (pts_nil (X := X)).run pins s σ H Q I (P r H F.1 Nx.rfl')⟩
theorem pts_some {X : Cx} {c : Expr} (h : CE X cf c cc) : PTs X [c] (TrB cf X.K X.mg cc) := pts_one h.pt
theorem folded_ok {x : Value} {env : PySem.Env} (h : ∀ a b c, iter ≠ .Set a b c) : foldedSetIterable iter env x = pure x := by
  cases iter <;> first | rfl | exact absurd rfl (h _ _ _)
/-- y = [..] on one line -/
theorem swaps_lc {i : Nat} {y : Str} (hc : X.calm = true) (hN : X.N.Nodup) (hy : X.N[i]? = some y) (hyl : X.env.scope.names.lookup y = some .local)
    (hsw : swapsWith (.ListComp elt [⟨tg, iter, ifs, 0⟩] scope pos) (some (.Name y py)) spos.line X.env = pure true) (L : LcParts X cf tg elt iter ifs scope own ce t cit cc) :
    PS X (.Assign [.Name y py] (.ListComp elt [⟨tg, iter, ifs, 0⟩] scope pos) spos) (tAsg (TrD cf X.K X.mg (.lc ce t cit cc (own.map (·.2)))) (gName i)) := by
  have h := ps_setLc (spos := spos) hc hN hy hyl hsw L.hi L.ok L.hg L.ht L.he L.hs
  refine ⟨fun pins s σ H D I z => h.run pins s σ H D I ?_⟩
  have z : TrD cf X.K X.mg (.lc ce t cit cc (own.map (·.2))) σ H (fun x H1 => gName i x σ H1 D.nx) := z
  show tLc _ _ _ _ _ σ H fun x H1 => gName i x σ H1 D.nx
  refine tlc_of L.sub σ H _ ?_
  obtain ⟨r, v, M, d, M', F, e, P⟩ := z
  obtain ⟨x, M1, h1, h2⟩ := bnd_eq e
  refine ⟨r, v, M, x, M1, F, h1, fun r' H' y R n q => ?_⟩
  obtain ⟨r2, R2, n2, q2⟩ := RA.toD n R q h2
  exact P r2 H' y R2 n2 q2
/-! ### isinstance -/
def tyS : Ty → String
  | .int => "int"
  | .bool => "bool"
  | .str => "str"
  | .tuple => "tuple"
  | .list => "list"
def tyD : D → Option String
  | .non => some "NoneType"
  | .bl _ => some "bool"
  | .int _ => some "int"
  | .str _ => some "str"
  | .tup _ => some "tuple"
  | .fz _ => some "list"
  | .xt _ => some "tuple"
  | .ref _ => none
theorem kit_all (t : Ty) : kitB "NoneType" (tyS t) = some false ∧ kitB "bool" (tyS t) = some (isTy t (.bl true)) ∧ kitB "int" (tyS t) = some (isTy t (.int 0)) ∧ kitB "str" (tyS t) = some (isTy t (.str "")) ∧
    kitB "tuple" (tyS t) = some (decide (t = .tuple)) ∧ kitB "list" (tyS t) = some (decide (t = .list)) ∧ kitB "dict" (tyS t) = some false := by
  cases t <;> decide +kernel
theorem FzL.ty {K : Frg} {H : Hp} {a : Addr} {vs : List V} (h : FzL K H a vs) : TyX K H (.ref a) (.type "list") := by
  rcases h with ⟨o, h⟩ | ⟨o, its, n, h, hc, _⟩
  · exact .base (.frz h)
  · exact .kList h hc
theorem ce_isi {tn : Str} {ty : Ty} {p2 : Pos} (ha : CE X cf a ca) (hg : Gl X "isinstance") (hm : X.mg "isinstance" = none) (hg2 : Gl X tn) (hm2 : X.mg tn = none) (hv : bootBuiltins tn = some (.type (tyS ty))) (hs : noStar a = true) (hn : tn ≠ "__name__") (hd : (tn == ("__debug__" : Str)) = false) :
    CE X cf (.Call (.Name "isinstance" p) [a, .Name tn p2] [] pos) (.isi ca ty) := by
  refine CE.of ((pe_callB call_isi hg hm PyProof.Rows.boot_isinstance (pa_cons ha.pe (pa_cons (pe_bltn (v := .ty (tyS ty)) hg2 hm2 hv rfl hn hd) pa_nil) (star_cons hs)) (by decide) (by decide) (star_cons hs) (by rfl)).evI fun σ H Q z => ?_) fun _ => rfl
  obtain ⟨r, v, M, d, M', F, e, P⟩ := z
  obtain ⟨x, N1, g1, e1⟩ := bnd_eq e
  obtain ⟨k, hk, e2⟩ := Option.map_eq_some_iff.mp e1
  obtain ⟨rfl, rfl⟩ := Prod.mk.inj e2
  refine ⟨r, v, M, x, N1, F, g1, fun r1 H1 x1 R1 n1 q1 => ?_⟩
  have fin : Q (.bl k) H1 := (P.nx F.1 R1 n1).at R1 rfl
  have K := kit_all ty
  have done : ∀ T, TyX X.K H1 x1 (.type T) → kitB T (tyS ty) = some k → ∃ (x : V) (c : V) (t u : Value) (b : Bool), [x1, V.ty (tyS ty)] = [x, c] ∧ ClsV c u ∧ TyX X.K H1 x t ∧ PySem.W.kitOne X.K t u = some b ∧ Q (.bl b) H1 := fun T h1 h2 => ⟨x1, _, _, _, k, rfl, .ty _, h1, kit_ty h2, fin⟩
  show ∃ (x : V) (c : V) (t u : Value) (b : Bool), [x1, V.ty (tyS ty)] = [x, c] ∧ ClsV c u ∧ TyX X.K H1 x t ∧ PySem.W.kitOne X.K t u = some b ∧ Q (.bl b) H1
  unfold isTyA at hk
  split at hk
  · cases hk
    obtain ⟨q, vs, rfl, _, _, h1, _, _⟩ := q1
    exact done "list" (.base (.lst h1)) K.2.2.2.2.2.1
  · rename_i n
    obtain ⟨q, rfl, hq⟩ := q1
    split at hk
    · rename_i ds hm'
      cases hk
      obtain ⟨q', hq', vs, h1, _, _⟩ := R1.at hm'
      rw [hq] at hq'; cases hq'
      exact done "list" (.base (.lst h1)) K.2.2.2.2.2.1
    · rename_i t kvs hm'
      cases hk
      obtain ⟨q', hq', ro⟩ := R1.at hm'
      rw [hq] at hq'; cases hq'
      cases t with
      | false => obtain ⟨ks, h1, _⟩ := ro; exact done "dict" (.base (.dK h1)) K.2.2.2.2.2.2
      | true => obtain ⟨ks, h1, _⟩ := ro; exact done "dict" (.base (.dT h1)) K.2.2.2.2.2.2
    · cases hk
  · rename_i d hnr
    cases hk
    cases d with
    | non => cases q1; exact done "NoneType" (.base .non) (by rw [K.1]; cases ty <;> rfl)
    | bl b => cases q1; exact done "bool" (.base (.bl _)) (by rw [K.2.1]; cases ty <;> rfl)
    | int i => cases q1; exact done "int" (.base (.int _)) (by rw [K.2.2.1]; cases ty <;> rfl)
    | str s => cases q1; exact done "str" (.base (.str _)) (by rw [K.2.2.2.1]; cases ty <;> rfl)
    | tup ds => obtain ⟨q, vs, rfl, h1, _, _⟩ := q1; exact done "tuple" (.base (.tup h1)) (by rw [K.2.2.2.2.1]; cases ty <;> rfl)
    | xt ds => obtain ⟨q, vs, rfl, ⟨o, h1, _⟩, _, _⟩ := q1; exact done "tuple" (.fTuple h1) (by rw [K.2.2.2.2.1]; cases ty <;> rfl)
    | fz ds => obtain ⟨q, vs, rfl, h1, _, _⟩ := q1; exact done "list" h1.ty (by rw [K.2.2.2.2.2.1]; cases ty <;> rfl)
    | ref n => exact (hnr n rfl).elim
/-! ### built-in methods -/
theorem pe_append (ha : CE X cf o co) (h : PA X (e :: es) (TrAs cf X.K X.mg ces)) (hb : okBase o = true) (hs : (e :: es).all noStar = true) (hl : (e :: es).length < 30) (hline : (apos.endLine == pos.line) = true) :
    PE X (.Call (.Attribute o "append" apos) (e :: es) [] pos) (tBlt X cf co .append ces) := by
  have hs' := hs
  rw [List.all_cons, Bool.and_eq_true] at hs'
  refine (pe_bm PySem.F.plainAttrs_list PySem.F.slot_list_append PySem.F.type_list_append mt_append ha.pe h (base_ok hb) (meth_few hs hl) hline (star_cons hs'.1) (star_plain hs'.2)).evI fun σ H Q z => ?_
  obtain ⟨r, v, M, n, u, N1, as, N2, u2, d, M3, F, g1, hu, hni, g2, hu2, hk, e, P⟩ := z
  cases u2 with
  | lst ds =>
    cases u with
    | lst ds0 =>
      refine ⟨r, v, M, _, N1, F, g1, fun r1 H1 x1 R1 n1 q1 => ?_⟩
      obtain ⟨q, rfl, hq⟩ := q1
      obtain ⟨q', hq', vs0, h1, _, _⟩ := R1.at hu
      rw [hq] at hq'; cases hq'
      refine ⟨.inl ⟨rfl, vs0, SqL.of h1⟩, r1, v, N1, as, N2, F.nx R1 n1, g2, fun r2 H2 x2 R2 n2 q2 => ?_⟩
      obtain ⟨q', hq', vs, h2, l2, s2⟩ := R2.at hu2
      rw [n2.get hq] at hq'; cases hq'
      have P2 := (P.nx F.1 R1 n1).nx R1 R2 n2
      replace e : bmAppend n ds as N2 = some (d, M3) := e
      unfold bmAppend at e
      split at e
      · rename_i d'
        split at e
        · rename_i hlen
          cases e
          obtain ⟨y, rfl, hy⟩ := q2.one
          have hvl : vs.length < sizeLine := by rw [← s2.length]; exact Nat.lt_trans hlen line_lt
          have n3 : Nx r2 H2 r2 (L2.upd H2 q (.lst (vs ++ [y]))) := Nx.put (n2.get hq)
          refine ⟨q, vs, y, rfl, rfl, h2, hvl, P2 r2 _ _ (R2.put (n2.get hq) ⟨_, upd_same, ?_, ?_⟩) n3 rfl⟩
          · rw [List.length_append, List.length_singleton]; exact Nat.lt_trans hlen line_lt
          · exact (s2.append (RVs.one hy)).nx R2 n3
        · cases e
      · rename_i xs'
        split at e
        · rename_i hlen
          cases e
          obtain ⟨y, rfl, hy⟩ := q2.one
          obtain ⟨t, ws, rfl, ht0, htr, ht, htl, hts⟩ := hy
          have hvl : vs.length < sizeLine := by rw [← s2.length]; exact Nat.lt_trans hlen line_lt
          have hqt : q ≠ t := fun w => htr (w ▸ List.mem_of_getElem? (n2.get hq))
          -- the new list joins first
          have R3 : Rel X.K X.mg (r2 ++ [t]) H2 (N2 ++ [.lst xs']) := R2.join htr Wk.self (fun _ _ => rfl) ⟨ws, ht, htl, hts.wk Wk.self⟩
          have hq3 : (r2 ++ [t])[n]? = some q := by rw [List.getElem?_append_left (List.getElem?_eq_some_iff.mp (n2.get hq)).1]; exact n2.get hq
          have n3 : Nx (r2 ++ [t]) H2 (r2 ++ [t]) (L2.upd H2 q (.lst (vs ++ [V.ref t]))) := Nx.put hq3
          have htp : RV X.K (r2 ++ [t]) H2 (.ref N2.length) (.ref t) := ⟨t, rfl, by rw [← R2.len, List.getElem?_append_right (Nat.le_refl _), Nat.sub_self]; rfl⟩
          have P1 := P.nx F.1 R1 n1
          refine ⟨q, vs, .ref t, rfl, rfl, h2, hvl, P1 (r2 ++ [t]) _ _ ?_ ⟨?_, fun b w hb hbr => ?_, fun b hb hbr => ?_⟩ rfl⟩
          · have := R3.put (u := .lst (ds ++ [.ref N2.length])) hq3 ⟨_, upd_same, by rw [List.length_append, List.length_singleton]; exact Nat.lt_trans hlen line_lt, ((s2.wk Wk.self).append (RVs.one htp)).nx R3 n3⟩
            have hnl : n < N2.length := (List.getElem?_eq_some_iff.mp hu2).1
            rw [List.set_append_left _ _ hnl] at this
            exact this
          · obtain ⟨s, hs⟩ := n2.pre
            exact ⟨s ++ [t], by rw [hs, List.append_assoc]⟩
          · rw [upd_ne (show b ≠ q by intro w; subst w; exact hbr (List.mem_of_getElem? hq))]
            exact n2.fr _ _ hb hbr
          · rcases List.mem_append.mp hb with hb | hb
            · exact n2.new b hb hbr
            · rw [List.mem_singleton] at hb; rw [hb]; exact ht0
        · cases e
      · cases e
    | dic t _ => cases t <;> cases hk
    | ins _ _ => cases hk
    | set t _ => cases t <;> cases hk
  | dic t _ => cases e
  | ins _ _ => cases e
  | set t _ => cases e
theorem RVs.dropLast {K : Frg} {r : List Addr} {H : Hp} : ∀ {ds : List D} {vs : List V}, RVs K r H ds vs → RVs K r H ds.dropLast vs.dropLast
  | [], _, h => by cases h; exact rfl
  | [d], _, ⟨v, ws, e, h, hs⟩ => by cases hs; subst e; exact rfl
  | d :: d2 :: ds, _, ⟨v, ws, e, h, hs⟩ => by
    obtain ⟨v2, ws2, e2, h2, hs2⟩ := id hs
    subst e; subst e2
    exact ⟨v, (v2 :: ws2).dropLast, rfl, h, RVs.dropLast hs⟩
theorem pe_pop (ha : CE X cf o co) (hb : okBase o = true) (hline : (apos.endLine == pos.line) = true) :
    PE X (.Call (.Attribute o "pop" apos) [] [] pos) (tBlt X cf co .pop .nil) := by
  refine (pe_bm0 PySem.F.plainAttrs_list PySem.F.slot_list_pop PySem.F.type_list_pop mt_pop ha.pe (base_ok hb) hline).evI fun σ H Q z => ?_
  obtain ⟨r, v, M, n, u, N1, as, N2, u2, d, M3, F, g1, hu, hni, g2, hu2, hk, e, P⟩ := z
  cases g2
  rw [hu] at hu2
  cases hu2
  cases u with
  | lst ds =>
    refine ⟨r, v, M, _, N1, F, g1, fun r1 H1 x1 R1 n1 q1 => ?_⟩
    obtain ⟨q, rfl, hq⟩ := q1
    obtain ⟨q', hq', vs, h1, l1, s1⟩ := R1.at hu
    rw [hq] at hq'; cases hq'
    replace e : bmPop n ds [] N1 = some (d, M3) := e
    unfold bmPop at e
    simp only at e
    split at e
    · rename_i y hy
      cases e
      obtain ⟨w, hw, hw2⟩ := s1.get hy
      have n3 : Nx r1 H1 r1 (L2.upd H1 q (.lst vs.dropLast)) := Nx.put hq
      refine ⟨.inl ⟨rfl, vs, SqL.of h1⟩, q, vs, w, rfl, rfl, h1, by rw [← s1.length]; exact hw, (P.nx F.1 R1 n1) r1 _ _ (R1.put hq ⟨_, upd_same, by rw [List.length_dropLast]; omega, (s1.dropLast).nx R1 n3⟩) n3 (RV.nx R1 n3 hw2)⟩
    · cases e
  | dic t _ => cases e
  | ins C fs => exact (hni C fs rfl).elim
  | set t _ => cases e
theorem dic_isD {K : Frg} {mg : Str → Option Value} {r : List Addr} {H : Hp} {q : Addr} {t : Bool} {kvs : List (D × D)} (h : RO K mg r H q (.dic t kvs)) : IsD H q := by
  cases t with
  | false => obtain ⟨ks, h1, _⟩ := h; exact .inl ⟨ks, .inl h1⟩
  | true => obtain ⟨ks, h1, _⟩ := h; exact .inr ⟨ks, .inl h1⟩
theorem get_kind {u2 u : MO} {t : Bool} {kvs : List (D × D)} (e : u2 = .dic t kvs) (hk : kindM u2 = kindM u) : ∃ t' kvs', u = .dic t' kvs' := by
  subst e
  cases u with
  | dic t' kvs' => exact ⟨t', kvs', rfl⟩
  | lst _ => cases t <;> cases hk
  | ins _ _ => cases t <;> cases hk
  | set t' _ => cases t <;> cases t' <;> cases hk
theorem trees1 {e : Expr} {env : PySem.Env} (h : noStar e = true) : backTo pos (starEach [e] env) = [(false, eval e env)] := by rw [star_cons h]; rfl
theorem trees2 {e f : Expr} {env : PySem.Env} (h : noStar e = true) (h2 : noStar f = true) : backTo pos (starEach [e, f] env) = [(false, eval e env), (false, eval f env)] := by rw [star_cons h, star_cons h2]; rfl
theorem pe_get1 (hu : X.A.units + 1 < cLine) (ha : CE X cf o co) (he : CE X cf e ce) (hb : okBase o = true) (hs : noStar e = true) (hline : (apos.endLine == pos.line) = true) :
    PE X (.Call (.Attribute o "get" apos) [e] [] pos) (tBlt X cf co .get (.cons ce .nil)) := by
  refine (pe_dget1 hu ha.pe he.pe ⟨base_ok hb, meth_few (es := [e]) (by simp [hs]) (by simp), hline, trees1 hs⟩).evI fun σ H Q z => ?_
  obtain ⟨r, v, M, n, u, N1, as, N2, u2, d, M3, F, g1, hu, hni, g2, hu2, hk, e, P⟩ := z
  obtain ⟨x, N3, g3, g4⟩ := bnd_eq g2
  cases g4
  cases u2 with
  | lst _ => cases e
  | ins _ _ => cases e
  | set _ _ => cases e
  | dic t kvs =>
  replace e : bmGet t kvs [x] _ = some (d, M3) := e
  unfold bmGet at e
  split at e
  case h_3 => cases e
  case h_2 h => cases h
  rename_i k heq
  cases heq
  split at e
  · rename_i hkey
    cases e
    obtain ⟨t', kvs', rfl⟩ := get_kind rfl hk
    refine ⟨r, v, M, _, N1, F, g1, fun r1 H1 x1 R1 n1 q1 => ?_⟩
    obtain ⟨q, rfl, hq⟩ := q1
    obtain ⟨q', hq', ro⟩ := R1.at hu
    rw [hq] at hq'; cases hq'
    refine ⟨q, rfl, dic_isD ro, r1, v, N1, _, _, F.nx R1 n1, g3, fun r2 H2 x2 R2 n2 q2 => ?_⟩
    obtain ⟨q', o, hq', _, hg, ho⟩ := dic_get R2 hu2 hkey q2
    rw [n2.get hq] at hq'; cases hq'
    refine ⟨o, hg, ((P.nx F.1 R1 n1).nx R1 R2 n2).at R2 ?_⟩
    rcases ho with ⟨h1, h2⟩ | ⟨d2, x3, h1, h2, h3⟩
    · rw [h1, h2]; exact rfl
    · rw [h1, h2]; exact h3
  · cases e
theorem pe_get2 {f : Expr} {cff : E} (hu : X.A.units + 1 < cLine) (ha : CE X cf o co) (he : CE X cf e ce) (hf : CE X cf f cff) (hb : okBase o = true) (hs : noStar e = true) (hs2 : noStar f = true) (hline : (apos.endLine == pos.line) = true) :
    PE X (.Call (.Attribute o "get" apos) [e, f] [] pos) (tBlt X cf co .get (.cons ce (.cons cff .nil))) := by
  refine (pe_dget2 hu ha.pe he.pe hf.pd ⟨base_ok hb, meth_few (es := [e, f]) (by simp [hs, hs2]) (by simp), hline, trees2 hs hs2⟩).evI fun σ H Q z => ?_
  obtain ⟨r, v, M, n, u, N1, as, N2, u2, d, M3, F, g1, hu, hni, g2, hu2, hk, e, P⟩ := z
  obtain ⟨x, N3, g3, g4⟩ := bnd_eq g2
  obtain ⟨ys, N4, g5, g6⟩ := bnd_eq g4
  cases g6
  obtain ⟨y, N5, g7, g8⟩ := bnd_eq g5
  cases g8
  cases u2 with
  | lst _ => cases e
  | ins _ _ => cases e
  | set _ _ => cases e
  | dic t kvs =>
  replace e : bmGet t kvs [x, y] _ = some (d, M3) := e
  unfold bmGet at e
  split at e
  case h_3 => cases e
  case h_1 h => cases h
  rename_i k dd heq
  cases heq
  split at e
  · rename_i hkey
    cases e
    obtain ⟨t', kvs', rfl⟩ := get_kind rfl hk
    refine ⟨r, v, M, _, N1, F, g1, fun r1 H1 x1 R1 n1 q1 => ?_⟩
    obtain ⟨q, rfl, hq⟩ := q1
    obtain ⟨q', hq', ro⟩ := R1.at hu
    rw [hq] at hq'; cases hq'
    refine ⟨q, rfl, dic_isD ro, r1, v, N1, _, _, F.nx R1 n1, g3, fun r2 H2 x2 R2 n2 q2 => ⟨r2, v, _, dd, _, (F.nx R1 n1).nx R2 n2, (by show bnd _ _ = _; rw [g7]; rfl), fun r3 H3 x3 R3 n3 q3 => ?_⟩⟩
    obtain ⟨q', o, hq', _, hg, ho⟩ := dic_get R3 hu2 hkey (RV.nx R2 n3 q2)
    rw [n3.get (n2.get hq)] at hq'; cases hq'
    refine ⟨o, hg, (((P.nx F.1 R1 n1).nx R1 R2 n2).nx R2 R3 n3).at R3 ?_⟩
    rcases ho with ⟨h1, h2⟩ | ⟨d2, x3, h1, h2, h3⟩
    · rw [h1, h2]; exact q3
    · rw [h1, h2]; exact h3
  · cases e
end
end Ev
set_option maxRecDepth 100000
/-! xs[:] = ys of two lists -/
namespace Ev
open PySem PySem.W L2 PyProof.Rows PySem.Spec HT
section
variable {prog : Program} {w : World} {A : Around} {E : Value → Shared → Prop} {s : Shared}
theorem bounds_all (n : Nat) : sliceBounds none none none n = ((0 : Int), (n : Int), 1) := by
  simp [sliceBounds]
theorem setItem_all {p q t : Addr} {xs ys : Array Value} {n m : Nat} {Q : Unit → Shared → Prop}
    (hp : s.heap.get? p = some { cls := .type "list", data := .seq xs n }) (hq : s.heap.get? q = some { cls := .type "list", data := .seq ys m }) (ne : p ≠ q)
    (ht : s.heap.IsSliceOf t .none .none .none) (z : xs.size + ys.size ≤ sizeLine)
    (k : Q () { s with heap := s.heap.update p (Obj.mapSeq fun zs => zs.extract 0 0 ++ ys ++ zs.extract xs.size zs.size) }) :
    wpAny (model prog w) A (setItem (.ref p) (.ref t) (.ref q)) Q E s := by
  have lp : s.heap.IsList p xs := PySem.IsL.isList hp
  have lq : s.heap.IsList q ys := PySem.IsL.isList hq
  obtain ⟨ot, gt, ct, dt⟩ := id ht
  have tt : s.TypeIs (.ref t) "slice" := ⟨ot, gt, ct⟩
  have st0 : ¬ ((rawPart none == rawInt 0) = true) := fun e => Bool.false_ne_true e
  have nsame : Builtin.List.listSameRef (.ref p) (.ref q) = false := by
    unfold Builtin.List.listSameRef; exact beq_eq_false_iff_ne.mpr ne
  unfold setItem
  try with_reducible refine wpAny_holding ?_
  first | refine wpAny_bind (wpAny_pure ?_) | skip
  refine wpAny_bind (wpAny_sequenceKey lp.typeIs (by decide) (wpAny_bind (wpAny_callSpecial?_slot (name := Str.ofString "__setitem__") lp.typeIs slot_list_setitem
    (wpAny_call_entry slot_list_setitem lp.typeIs entry_list_setitem ?_ (args_list_setitem (Value.ref p) (.ref t) (.ref q)))) ))
  show wpAny _ _ (Builtin.List.listSubscript? (.ref t) >>= _) _ _ s
  refine wpAny_bind ?_
  unfold Builtin.List.listSubscript?
  refine wpAny_bind (wpAny_specialOf tt slice_no_index ?_)
  simp only [Option.isNone_none, if_true]
  refine wpAny_pure (?_ : wpAny _ _ _ _ _ s)
  show wpAny _ _ (typeOf (.ref t) >>= _) _ _ s
  refine wpAny_bind (wpAny_typeOf tt ?_)
  first
    | rw [if_neg (show _ by decide)]
    | refine PySem.W.KFB.if_not (show _ by decide) ?_
  rw [listSliceParts_eq]
  refine wpAny_bind (wpAny_bind (wpAny_field gt dt (x := .none) rfl (wpAny_bind (wpAny_listPart (k := none) .none ?_))))
  rw [if_neg st0]
  refine wpAny_bind (wpAny_field gt dt (x := .none) rfl (wpAny_bind (wpAny_listPart (k := none) .none (wpAny_bind (wpAny_field gt dt (x := .none) rfl (wpAny_bind (wpAny_listPart (k := none) .none (wpAny_pure ?_))))))))
  first
    | simp only [nsame, Bool.false_eq_true, if_false]
    | refine PySem.W.KFB.if_not nsame ?_
    | (dsimp only
       rw [if_neg (by rw [nsame]; exact Bool.false_ne_true)])
  refine wpAny_bind (m := Builtin.List.listAllItems (.ref q) "must assign iterable to extended slice") ?_
  unfold Builtin.List.listAllItems
  refine wpAny_bind (wpAny_typeOf lq.typeIs ?_)
  first
    | refine PySem.W.KFB.if_so (show _ by decide) ?_
    | rw [if_pos (show _ by decide)]
    | simp only [beq_self_eq_true, Bool.true_or, if_true]
  unfold Builtin.List.listItems
  refine wpAny_bind (wpAny_seqItems hq rfl (wpAny_pure (wpAny_bind (wpAny_bind (wpAny_seqItems hp rfl (wpAny_pure ?_))))))
  refine wpAny_bind (wpAny_of_eq ((sliceIndices_raw none none none xs.size (by simp)).trans (congrArg (fun x : Int × Int × Int => (pure x : Sem (Int × Int × Int))) (bounds_all xs.size))) ?_)
  show wpAny _ _ (if ((1 : Int) == 1) = true then _ else _) _ _ s
  rw [if_pos (show ((1 : Int) == 1) = true by decide)]
  refine wpAny_bind (wpAny_rule ?_)
  first
    | simp only [notLongL z, Bool.false_eq_true, if_false]
    | refine PySem.W.KFB.if_not (notLongL z) ?_
  first | refine wpAny_bind (wpAny_pure ?_) | skip
  have mx : (max (0 : Int) ((xs.size : Nat) : Int)).toNat = xs.size := by omega
  have z' : ((fun zs : Array Value => zs.extract 0 0 ++ ys ++ zs.extract xs.size zs.size) xs).size ≤ sizeLine + 1 := by
    simp only [Array.size_append, Array.size_extract]; omega
  show wpAny _ _ (updateSeq p (fun xs' => xs'.extract 0 ((0 : Int)).toNat ++ ys ++ xs'.extract (max (0 : Int) ((xs.size : Nat) : Int)).toNat xs'.size) >>= _) _ _ s
  rw [mx, show ((0 : Int)).toNat = 0 from rfl]
  refine wpAny_bind (wpAny_updateSeq (hz := Nat.le_trans (Nat.le_add_right _ ys.size) z) (_hz' := z') hp rfl (wpAny_bind (wpAny_letGo ?_)))
  first
    | exact wpAny_bind (wpAny_pure (wpAny_pure ⟨Value.none, rfl, wpAny_pure k⟩))
    | exact wpAny_pure ⟨Value.none, rfl, wpAny_pure k⟩
end
section
variable {X : Cx}
theorem set_all {pins : List (Addr × Obj)} {s : Shared} {σ : L2.St} {H : Hp} {p q t : Addr} {xs ys : List V} {Q : Unit → Shared → Prop} (I : Inv X pins σ H s)
    (hp : H p = some (.lst xs)) (hq : H q = some (.lst ys)) (ne : p ≠ q) (ht : s.heap.IsSliceOf t .none .none .none) (z : xs.length + ys.length ≤ sizeLine)
    (k : ∀ s', Inv X pins σ (L2.upd H p (.lst ys)) s' → Q () s') : wpAny (model X.prog X.w) X.A (setItem (.ref p) (.ref t) (.ref q)) Q X.xe s := by
  obtain ⟨z1, i1, n1, r1, l1, e1⟩ := I.lstM hp
  obtain ⟨z2, i2, n2, r2, l2, e2⟩ := I.lstM hq
  refine setItem_all e1 e2 ne ht (by rw [List.size_toArray, List.size_toArray]; omega) (k _ ?_)
  refine I.lset (its' := i2) (t' := s.toks) hp e1 ?_ r2 z2
  apply Array.toList_inj.mp
  simp
theorem pg_all {o : Expr} {to : TE} {p2 pos : Pos} (ho : PE X o to) : PG X (.Subscript o (.Slice none none none p2) pos) (fun v σ H Q => to σ H fun x H1 => ∃ p q xs ys, x = V.ref p ∧ v = V.ref q ∧ H1 p = some (.lst xs) ∧ H1 q = some (.lst ys) ∧ p ≠ q ∧ xs.length + ys.length ≤ sizeLine ∧ Q σ (L2.upd H1 p (.lst ys))) := by
  refine ⟨fun pins s σ H v u Q I r h => ?_⟩
  have ha : assign (.Subscript o (.Slice none none none p2) pos) X.env u = (do
      let ov ← holding [u] (eval o X.env)
      let iv ← holding [u, ov] (eval (.Slice none none none p2) X.env)
      standAt pos
      holding [u, ov, iv] (setItem ov iv u)
      release [iv, u, ov] []) := rfl
  rw [ha]
  refine wpAny_bind (wpAny_holding (thn (ho.run pins s σ H _ I h) fun ov s1 ⟨x, H1, I1, r1, q1⟩ => ?_))
  obtain ⟨p, q, xs, ys, rfl, rfl, hp, hq, ne, z, hQ⟩ := q1
  cases r1
  cases r
  refine wpAny_bind (wpAny_holding (wpAny_Slice ?_))
  rw [evalPart_none]
  refine wpAny_pure (wpAny_pure (wpAny_pure ?_))
  have I4 : Inv X pins σ H1 { s1 with heap := s1.heap.push { cls := .type "slice", data := .fields #[.none, .none, .none] } } := I1.kept (t' := s1.toks) fun b ob q => Heap.get?_push_of_some _ q
  refine wpAny_bind (wpAny_standAt (wpAny_bind (wpAny_holding (set_all I4 hp hq ne (Heap.IsSliceOf.new ..) z fun s3 I3 => wpAny_release ⟨σ, _, I3, hQ⟩))))
end
end Ev
namespace Ev
open PySem PySem.W L2 PyProof.Rows
/-! ### statements -/
def PoS [Tab] (K : Frg) (mg : Str → Option Value) (r : List Addr) (H : Hp) (fl : Fl) (v2 : Env) (M2 : Mem) (D : Ends) : Prop := ∀ r' H' σ', Rel K mg r' H' M2 → Nx r H r' H' → RE K r' H' v2 σ' → match fl with
  | .nx => D.nx σ' H'
  | .bk => D.bk σ' H'
  | .ct => D.ct σ' H'
  | .rt d => ∀ x, RV K r' H' d x → D.rt x H'
def TrS [Tab] (cf : Cf) (K : Frg) (mg : Str → Option Value) (s : S) : TS := fun D σ H => ∃ r v M fl v2 M2, Fr0 K mg σ H r v M ∧ ex cf s v M = some ((fl, v2), M2) ∧ PoS K mg r H fl v2 M2 D
def TrSs [Tab] (cf : Cf) (K : Frg) (mg : Str → Option Value) (s : Ss) : TS := fun D σ H => ∃ r v M fl v2 M2, Fr0 K mg σ H r v M ∧ exs cf s v M = some ((fl, v2), M2) ∧ PoS K mg r H fl v2 M2 D
theorem _root_.L2.PS.evI {X : Cx} {e : Stmt} {t t' : TS} (h : PS X e t) (i : ∀ D σ H, t' D σ H → t D σ H) : PS X e t' := ⟨fun pins s σ H D I q => h.run pins s σ H D I (i _ _ _ q)⟩
theorem _root_.L2.PSs.evI {X : Cx} {e : List Stmt} {t t' : TS} (h : PSs X e t) (i : ∀ D σ H, t' D σ H → t D σ H) : PSs X e t' := ⟨fun pins s σ H D I q => h.run pins s σ H D I (i _ _ _ q)⟩
def noComp : Expr → Bool
  | .ListComp .. => false
  | .SetComp .. => false
  | .DictComp .. => false
  | _ => true
theorem swaps_no {e : Expr} {t : Option Expr} {l : Nat} {env : PySem.Env} (h : noComp e = true) : swapsWith e t l env = pure false := by
  cases e <;> first | rfl | cases h
section
variable [Tab] {K : Frg} {mg : Str → Option Value} {r r' : List Addr} {H H' : Hp} {M M1 M2 : Mem} {v v2 : Env} {fl : Fl} {D : Ends} {σ : L2.St}
theorem PoS.nx (P : PoS K mg r H fl v2 M2 D) (R : Rel K mg r H M) (n : Nx r H r' H') : PoS K mg r' H' fl v2 M2 D := fun r2 H2 σ2 R2 n2 => P r2 H2 σ2 R2 (n.trans R n2)
end
section
variable [Tab] {X : Cx} {cf : Cf} {e a b c o tg iter : Expr} {ca cb cc co ce : E} {cit : Ev.It} {t : Tg} {pos p py : Pos} {es : List Expr} {ces : Es} {st : Stmt} {sts els : List Stmt} {cs : S} {css csl : Ss} {i : Nat} {x y : Str}
theorem s_expr (h : CE X cf e ce) (hn : noComp e = true) : PS X (.Expr e pos) (TrS cf X.K X.mg (.expr ce)) :=
  (ps_expr h.pe (swaps_no hn)).evI fun D σ H z => by
    obtain ⟨r, v, M, fl, v2, M2, F, e, P⟩ := z
    unfold ex at e
    obtain ⟨x, N1, g1, e1⟩ := bnd_eq e
    cases e1
    exact ⟨r, v, M, x, _, F, g1, fun r1 H1 x1 R1 n1 q1 => P r1 H1 σ R1 n1 (F.2.nx F.1 n1)⟩
theorem s_ret (h : CE X cf e ce) : PS X (.Return (some e) pos) (TrS cf X.K X.mg (.ret ce)) :=
  (ps_ret h.pd).evI fun D σ H z => by
    obtain ⟨r, v, M, fl, v2, M2, F, e, P⟩ := z
    unfold ex at e
    obtain ⟨x, N1, g1, e1⟩ := bnd_eq e
    cases e1
    exact ⟨r, v, M, x, _, F, g1, fun r1 H1 x1 R1 n1 q1 => P r1 H1 σ R1 n1 (F.2.nx F.1 n1) x1 q1⟩
theorem s_ret0 : PS X (.Return none pos) (TrS cf X.K X.mg (.ret (.cst .non))) :=
  ps_retN.evI fun D σ H z => by
    obtain ⟨r, v, M, fl, v2, M2, F, e, P⟩ := z
    cases e
    exact P r H σ F.1 Nx.rfl' F.2 .non rfl
theorem s_pass : PS X (.Pass pos) (TrS cf X.K X.mg .pass) :=
  ps_pass.evI fun D σ H z => by
    obtain ⟨r, v, M, fl, v2, M2, F, e, P⟩ := z
    cases e
    exact P r H σ F.1 Nx.rfl' F.2
theorem s_brk : PS X (.Break pos) (TrS cf X.K X.mg .brk) :=
  ps_break.evI fun D σ H z => by
    obtain ⟨r, v, M, fl, v2, M2, F, e, P⟩ := z
    cases e
    exact P r H σ F.1 Nx.rfl' F.2
theorem s_cont : PS X (.Continue pos) (TrS cf X.K X.mg .cont) :=
  ps_continue.evI fun D σ H z => by
    obtain ⟨r, v, M, fl, v2, M2, F, e, P⟩ := z
    cases e
    exact P r H σ F.1 Nx.rfl' F.2
theorem ss_nil : PSs X [] (TrSs cf X.K X.mg .nil) :=
  pss_nil.evI fun D σ H z => by
    obtain ⟨r, v, M, fl, v2, M2, F, e, P⟩ := z
    cases e
    exact P r H σ F.1 Nx.rfl' F.2
theorem ss_cons (h1 : PS X st (TrS cf X.K X.mg cs)) (h2 : PSs X sts (TrSs cf X.K X.mg css)) : PSs X (st :: sts) (TrSs cf X.K X.mg (.cons cs css)) :=
  (pss_cons h1 h2).evI fun D σ H z => by
    obtain ⟨r, v, M, fl, v2, M2, F, e, P⟩ := z
    unfold exs at e
    obtain ⟨⟨f1, w1⟩, N1, g1, e1⟩ := bnd_eq e
    refine ⟨r, v, M, f1, w1, N1, F, g1, fun r1 H1 σ1 R1 n1 q1 => ?_⟩
    cases f1 with
    | nx => exact ⟨r1, w1, N1, fl, v2, M2, ⟨R1, q1⟩, e1, P.nx F.1 n1⟩
    | bk => cases e1; exact P r1 H1 σ1 R1 n1 q1
    | ct => cases e1; exact P r1 H1 σ1 R1 n1 q1
    | rt d => cases e1; exact P r1 H1 σ1 R1 n1 q1
/-- a name's value -/
theorem asg_name {D : Ends} {σ : L2.St} {H : Hp} (z : TrS cf X.K X.mg (.asg (.tg (.nm i)) ce) D σ H) : tAsg (TrD cf X.K X.mg ce) (gName i) D σ H := by
  obtain ⟨r, v, M, fl, v2, M2, F, e, P⟩ := z
  unfold ex at e
  obtain ⟨d, N1, g1, e1⟩ := bnd_eq e
  obtain ⟨w, N2, g2, e2⟩ := bnd_eq e1
  cases e2
  obtain ⟨w', hw, g3⟩ := Option.map_eq_some_iff.mp (show (asgT (.nm i) d v).map (fun v => (v, N1)) = some (v2, M2) from g2)
  cases g3
  have hw : (if i < v.length then some (v.set i (some d)) else none) = some v2 := hw
  split at hw
  · cases hw
    exact ⟨r, v, M, d, _, F, g1, fun r1 H1 x1 R1 n1 q1 => P r1 H1 _ R1 n1 ((F.2.nx F.1 n1).set i q1)⟩
  · cases hw
theorem s_set (hN : X.N.Nodup) (hi : X.N[i]? = some x) (hx : Loc X.env.scope x) (hf : X.fn x = true ∨ X.env.scope.names.lookup x = some .local) (h : CE X cf e ce) (hs : swapsWith e (some (.Name x py)) pos.line X.env = pure false) :
    PS X (.Assign [.Name x py] e pos) (TrS cf X.K X.mg (.asg (.tg (.nm i)) ce)) :=
  (ps_set hN hi hx h.pd hs hf).evI fun D σ H z => asg_name z
theorem s_tgt (h : CE X cf e ce) (hg : PG X tg (TrG X.K t)) (hs : swapsWithSole [tg] e pos.line X.env = pure false) (hw : swappedStores [tg] e X.env = pure none) (h1 : noStar tg = true) :
    PS X (.Assign [tg] e pos) (TrS cf X.K X.mg (.asg (.tg t) ce)) :=
  (ps_asg h.pd hg hs hw (assign_cons h1)).evI fun D σ H z => by
    obtain ⟨r, v, M, fl, v2, M2, F, e, P⟩ := z
    unfold ex at e
    obtain ⟨d, N1, g1, e1⟩ := bnd_eq e
    obtain ⟨w, N2, g2, e2⟩ := bnd_eq e1
    cases e2
    obtain ⟨w', hw, g3⟩ := Option.map_eq_some_iff.mp (show (asgT t d v).map (fun v => (v, N1)) = some (v2, M2) from g2)
    cases g3
    exact ⟨r, v, M, d, _, F, g1, fun r1 H1 x1 R1 n1 q1 => ⟨r1, v, d, v2, F.2.nx F.1 n1, q1, hw, fun σ2 hE _ => P r1 H1 σ2 R1 n1 hE⟩⟩
/-! stores -/
def RSet [Tab] (K : Frg) (mg : Str → Option Value) : TSet := fun o i x H Q => ∃ r M a k d M', Rel K mg r H M ∧ RV K r H a o ∧ RV K r H k i ∧ RV K r H d x ∧ setI M a k d = some M' ∧ ∀ H', Rel K mg r H' M' → Nx r H r H' → Q H'
theorem set_ok (hu : X.A.units + 1 < cLine) : PSet X (RSet X.K X.mg) := by
  intro pins s σ H o i x ov iv u Q I r1 r2 r3 z
  obtain ⟨r, M, a, k, d, M', R, qa, qk, qd, e, P⟩ := z
  unfold setI at e
  split at e
  · rename_i n
    split at e
    · rename_i ds hm
      split at e
      · rename_i j
        split at e
        · rename_i m hj
          cases e
          obtain ⟨p, rfl, hp⟩ := qa
          obtain ⟨p', hp', vs, h1, h2, h3⟩ := R.at hm
          rw [hp] at hp'; cases hp'
          cases qk
          have n3 : Nx r H r (L2.upd H p (.lst (vs.set m x))) := Nx.put hp
          refine set_list pins s σ H (.ref p) (.int j) x ov iv u Q I r1 r2 r3 ⟨p, vs, j, m, rfl, rfl, h1, by rw [← h3.length]; exact hj, P _ (R.put hp ⟨_, upd_same, by rw [List.length_set]; exact h2, (h3.set m qd).nx R n3⟩) n3⟩
        · cases e
      · cases e
    · rename_i t kvs hm
      split at e
      · rename_i hc
        cases e
        obtain ⟨p, rfl, hp⟩ := qa
        obtain ⟨p', H', hp', hput, R', n'⟩ := dic_put R hm hc.1 qk qd hc.2
        rw [hp] at hp'; cases hp'
        cases r1
        exact d_setItem hu I hput r2 r3 fun s' I' => ⟨H', I', P H' R' n'⟩
      · cases e
    · cases e
  · cases e
theorem setI_len {M M' : Mem} {a k d : Ev.D} (e : setI M a k d = some M') : M'.length = M.length := by
  unfold setI at e
  repeat' split at e
  all_goals first | cases e | skip
  all_goals simp
theorem assign_sub {env : PySem.Env} {v : Value} (h : noSlice b = true) : assign (.Subscript a b py) env v = (do
    let ov ← holding [v] (eval a env)
    let iv ← holding [v, ov] (eval b env)
    standAt py
    holding [v, ov, iv] (setItem ov iv v)
    release [v, ov, iv] []) := by
  cases b <;> first | rfl | cases h
theorem s_sub (hu : X.A.units + 1 < cLine) (hk : noSlice b = true) (h : CE X cf e ce) (ha : CE X cf a ca) (hb : CE X cf b cb) (hs : swapsWithSole [.Subscript a b py] e pos.line X.env = pure false) (hw : swappedStores [.Subscript a b py] e X.env = pure none) :
    PS X (.Assign [.Subscript a b py] e pos) (TrS cf X.K X.mg (.asg (.sub ca cb) ce)) :=
  (ps_asg h.pd (pg_sub ha.pd hb.pd (set_ok hu) (fun _ => assign_sub hk)) hs hw).evI fun D σ H z => by
    obtain ⟨r, v, M, fl, v2, M2, F, e, P⟩ := z
    unfold ex at e
    obtain ⟨d, N1, g1, e1⟩ := bnd_eq e
    obtain ⟨w, N2, g2, e2⟩ := bnd_eq e1
    cases e2
    unfold asgS at g2
    obtain ⟨o, N3, g3, g4⟩ := bnd_eq g2
    obtain ⟨k, N4, g5, g6⟩ := bnd_eq g4
    obtain ⟨N5, g7, g8⟩ := Option.map_eq_some_iff.mp g6
    cases g8
    refine ⟨r, v, M, d, N1, F, g1, fun r1 H1 x1 R1 n1 q1 => ⟨r1, v, N1, o, N3, F.nx R1 n1, g3, fun r2 H2 x2 R2 n2 q2 => ⟨r2, v, N3, k, N4, (F.nx R1 n1).nx R2 n2, g5, fun r3 H3 x3 R3 n3 q3 => ?_⟩⟩⟩
    have n12 := n1.trans F.1 n2
    have n123 := n12.trans F.1 n3
    exact ⟨r3, N4, o, k, d, _, R3, q2.nx R2 n3, q3, (q1.nx R1 n2).nx R2 n3, g7, fun H' R' n' => P r3 H' σ R' (n123.trans F.1 n') (F.2.nx F.1 (n123.trans F.1 n'))⟩
theorem s_all {p2 : Pos} (h : CE X cf e ce) (ha : CE X cf a ca) (hs : swapsWithSole [.Subscript a (.Slice none none none p2) py] e pos.line X.env = pure false) (hw : swappedStores [.Subscript a (.Slice none none none p2) py] e X.env = pure none) :
    PS X (.Assign [.Subscript a (.Slice none none none p2) py] e pos) (TrS cf X.K X.mg (.asg (.all ca) ce)) :=
  (ps_asg h.pd (pg_all ha.pd) hs hw).evI fun D σ H z => by
    obtain ⟨r, v, M, fl, v2, M2, F, e, P⟩ := z
    unfold ex at e
    obtain ⟨d, N1, g1, e1⟩ := bnd_eq e
    obtain ⟨w, N2, g2, e2⟩ := bnd_eq e1
    cases e2
    unfold asgS at g2
    obtain ⟨o, N3, g3, g4⟩ := bnd_eq g2
    obtain ⟨N5, g7, g8⟩ := Option.map_eq_some_iff.mp g4
    cases g8
    refine ⟨r, v, M, d, N1, F, g1, fun r1 H1 x1 R1 n1 q1 => ⟨r1, v, N1, o, N3, F.nx R1 n1, g3, fun r2 H2 x2 R2 n2 q2 => ?_⟩⟩
    have n12 := n1.trans F.1 n2
    unfold setWh at g7
    split at g7
    · rename_i i j
      split at g7
      · rename_i xs ys hx hy
        split at g7
        · rename_i hc
          cases g7
          obtain ⟨p, rfl, hp⟩ := q2
          obtain ⟨q, rfl, hq⟩ := RV.nx R1 n2 q1
          obtain ⟨p', hp', vs, h1, l1, s1⟩ := R2.at hx
          rw [hp] at hp'; cases hp'
          obtain ⟨q', hq', ws, h2, l2, s2⟩ := R2.at hy
          rw [hq] at hq'; cases hq'
          have ne : p ≠ q := fun e => by
            subst e
            have hi := (List.getElem?_eq_some_iff.mp hp).1
            exact hc.1 ((List.getElem?_inj hi R2.nd).mp (hp.trans hq.symm))
          have n3 : Nx r2 H2 r2 (L2.upd H2 p (.lst ws)) := Nx.put hp
          have n4 := n12.trans F.1 n3
          exact ⟨p, q, vs, ws, rfl, rfl, h1, h2, ne, by rw [← s1.length, ← s2.length]; exact Nat.le_trans hc.2 line_le, P r2 _ σ (R2.put hp ⟨_, upd_same, l2, s2.nx R2 n3⟩) n4 (F.2.nx F.1 n4)⟩
        · cases g7
      · cases g7
    · cases g7
theorem setF_ok {K : Frg} {mg : Str → Option Value} {r : List Addr} {H : Hp} {M M' : Mem} (R : Rel K mg r H M) {a d : Ev.D} {f : Nat} {y : Str} (hy : Tab.nm[f]? = some y) {o u : V} (qa : RV K r H a o) (qd : RV K r H d u) (e : setF M a f d = some M') :
    ∃ p c dx gs, o = .ref p ∧ H p = some (.ins c dx gs) ∧ Cls K c ∧ NoAttr K c y ∧ gs.length < 1000 ∧ Rel K mg r (L2.upd H p (.ins c dx (putF y u gs))) M' ∧ Nx r H r (L2.upd H p (.ins c dx (putF y u gs))) := by
  unfold setF at e
  split at e
  · rename_i n
    split at e
    · rename_i C fs hm
      split at e
      · rename_i hc
        cases e
        obtain ⟨p, rfl, hp⟩ := qa
        obtain ⟨p', hp', x, c, dx, gs, hC, h1, h2⟩ := R.at hm
        rw [hp] at hp'; cases hp'
        have n3 : Nx r H r (L2.upd H p (.ins c dx (putF y u gs))) := Nx.put hp
        exact ⟨p, c, dx, gs, rfl, h1, hC.2.2.1, hC.2.2.2 f y hc.1 hy, by rw [← h2.length]; exact hc.2.1, R.put hp ⟨x, c, dx, _, hC, upd_same, RFs.wk (n3.wk R) (h2.put hy qd)⟩, n3⟩
      · cases e
    · cases e
  · cases e
theorem s_fld {f : Nat} (hy : Tab.nm[f]? = some y) (h : CE X cf e ce) (ha : CE X cf a ca) (hs : swapsWith e (some (.Attribute a y py)) pos.line X.env = pure false) : PS X (.Assign [.Attribute a y py] e pos) (TrS cf X.K X.mg (.asg (.fld ca f) ce)) :=
  (ps_fld ha.pd h.pd hs).evI fun D σ H z => by
    obtain ⟨r, v, M, fl, v2, M2, F, e, P⟩ := z
    unfold ex at e
    obtain ⟨d, N1, g1, e1⟩ := bnd_eq e
    obtain ⟨w, N2, g2, e2⟩ := bnd_eq e1
    cases e2
    unfold asgS at g2
    obtain ⟨o, N3, g3, g4⟩ := bnd_eq g2
    obtain ⟨N5, g7, g8⟩ := Option.map_eq_some_iff.mp g4
    cases g8
    refine ⟨r, v, M, d, N1, F, g1, fun r1 H1 x1 R1 n1 q1 => ⟨r1, v, N1, o, N3, F.nx R1 n1, g3, fun r2 H2 x2 R2 n2 q2 => ?_⟩⟩
    obtain ⟨p, c, dx, gs, rfl, h1, h2, h3, h4, R3, n3⟩ := setF_ok R2 hy q2 (q1.nx R1 n2) g7
    have n := (n1.trans F.1 n2).trans F.1 n3
    exact ⟨p, c, dx, gs, rfl, h1, h2, h3, h4, P r2 _ σ R3 n (F.2.nx F.1 n)⟩
/-! choices, loops -/
theorem s_ite (hc : CE X cf c cc) (ha : PSs X sts (TrSs cf X.K X.mg css)) (hb : PSs X els (TrSs cf X.K X.mg csl)) : PS X (.If c sts els pos) (TrS cf X.K X.mg (.ite cc css csl)) :=
  (ps_if hc.pt ha hb).evI fun D σ H z => by
    obtain ⟨r, v, M, fl, v2, M2, F, e, P⟩ := z
    unfold ex at e
    obtain ⟨k, N1, g1, e1⟩ := bnd_eq e
    refine ⟨r, v, M, k, N1, F, g1, fun r1 H1 R1 n1 => ?_⟩
    cases k with
    | true => rw [if_pos rfl] at e1 ⊢; exact ⟨r1, v, N1, fl, v2, M2, F.nx R1 n1, e1, P.nx F.1 n1⟩
    | false => rw [if_neg (by decide)] at e1 ⊢; exact ⟨r1, v, N1, fl, v2, M2, F.nx R1 n1, e1, P.nx F.1 n1⟩
theorem s_while (hx : X.xe = fun _ _ => False) (hc : CE X cf c cc) (hb : PSs X sts (TrSs cf X.K X.mg css)) : PS X (.While c sts [] pos) (TrS cf X.K X.mg (.while cc css)) :=
  (ps_while (by rw [hx]; exact PassesOwn.never) hc.pt hb).evI fun D σ H z => by
    obtain ⟨r, v, M, fl, v2, M2, F, e, P⟩ := z
    unfold ex at e
    refine ⟨fun m σ H => ∃ r v M, Fr0 X.K X.mg σ H r v M ∧ whileL (evB cf cc) (exs cf css) m v M = some ((fl, v2), M2) ∧ PoS X.K X.mg r H fl v2 M2 D, ⟨_, r, v, M, F, e, P⟩, ?_⟩
    clear F e P
    intro m σ H ⟨r, v, M, F, e, P⟩
    cases m with
    | zero => cases e
    | succ m =>
      unfold whileL at e
      obtain ⟨k, N1, g1, e1⟩ := bnd_eq e
      refine ⟨r, v, M, k, N1, F, g1, fun r1 H1 R1 n1 => ?_⟩
      cases k with
      | false =>
        rw [if_neg (by decide)] at e1 ⊢
        cases e1
        exact P r1 H1 σ R1 n1 (F.2.nx F.1 n1)
      | true =>
        rw [if_pos rfl] at e1 ⊢
        obtain ⟨⟨f1, w1⟩, N2, g2, e2⟩ := bnd_eq e1
        refine ⟨fun σ H => ∃ r v M, Fr0 X.K X.mg σ H r v M ∧ whileL (evB cf cc) (exs cf css) m v M = some ((fl, v2), M2) ∧ PoS X.K X.mg r H fl v2 M2 D, fun σ' H' q => ⟨m, Nat.lt_succ_self m, q⟩, r1, v, N1, f1, w1, N2, F.nx R1 n1, g2, fun r3 H3 σ3 R3 n3 q3 => ?_⟩
        have P3 := (P.nx F.1 n1).nx R1 n3
        cases f1 with
        | nx => exact ⟨r3, w1, N2, ⟨R3, q3⟩, e2, P3⟩
        | ct => exact ⟨r3, w1, N2, ⟨R3, q3⟩, e2, P3⟩
        | bk => cases e2; exact P3 r3 H3 σ3 R3 Nx.rfl' q3
        | rt d => cases e2; exact P3 r3 H3 σ3 R3 Nx.rfl' q3
theorem s_for (hx : X.xe = fun _ _ => False) (hc : X.calm = true) (hi : PI X tg iter (TrI cf X.K X.mg cit)) (hg : PG X tg (TrG X.K t)) (hb : PSs X sts (TrSs cf X.K X.mg css)) (hs : ∀ x, foldedSetIterable iter X.env x = pure x) :
    PS X (.For tg iter sts [] pos) (TrS cf X.K X.mg (.for t cit css)) :=
  (ps_for (by rw [hx]; exact PassesOwn.never) hc hi hg hb hs).evI fun D σ H z => by
    obtain ⟨r, v, M, fl, v2, M2, F, e, P⟩ := z
    unfold ex at e
    obtain ⟨⟨ds, gd⟩, N1, g1, e1⟩ := bnd_eq e
    refine ⟨r, v, M, (ds, gd), N1, F, g1, fun r1 H1 J R1 n1 hz dr => ?_⟩
    have P1 := P.nx F.1 n1
    have F1 := F.nx R1 n1
    let B : Ev.D → Env → Mem → Option ((Fl × Env) × Mem) := fun d v M => match asgT t d v with
      | some v => exs cf css v M
      | none => none
    let S : Nat → L2.St → Hp → Prop := fun i σ H => ∃ r v M, Fr0 X.K X.mg σ H r v M ∧ Nx r1 H1 r H ∧ forL B gd (ds.drop i) v M = some ((fl, v2), M2)
    refine ⟨fun i m σ H => m = ds.length - i ∧ i ≤ ds.length ∧ S i σ H, ⟨_, rfl, Nat.zero_le _, r1, v, N1, F1, Nx.rfl', e1⟩, ?_⟩
    rintro i m σ2 H2 ⟨rfl, hi, r2, w, N2, F2, n2, run⟩
    by_cases hlt : i < ds.length
    · rw [List.drop_eq_getElem_cons hlt] at run
      have st : still N2 gd = true := by
        unfold forL at run
        split at run
        · assumption
        · cases run
      have run2 : (bnd (B ds[i] w N2) fun r M => match r with
          | (.nx, v) => forL B gd (ds.drop (i + 1)) v M
          | (.ct, v) => forL B gd (ds.drop (i + 1)) v M
          | (.bk, v) => some ((.nx, v), M)
          | (.rt d, v) => some ((.rt d, v), M)) = some ((fl, v2), M2) := by
        unfold forL at run
        rw [if_pos st] at run
        exact run
      obtain ⟨⟨f1, w1⟩, N3, hb, run3⟩ := bnd_eq run2
      obtain ⟨hgo, hyl⟩ := dr.go r2 H2 N2 F2.1 n2 st i hlt
      refine .inr ⟨hgo, S (i + 1), fun σ' H' s => ⟨_, by omega, rfl, hlt, s⟩, fun x H' hx => ?_⟩
      obtain ⟨rfl, hv⟩ := hyl x H' hx
      have hxv := hv _ (List.getElem?_eq_getElem hlt)
      have hb : (match asgT t ds[i] w with
        | some v => exs cf css v N2
        | none => none) = some ((f1, w1), N3) := hb
      split at hb
      · rename_i w2 hw2
        refine ⟨r2, w, ds[i], w2, F2.2, hxv, hw2, fun σ3 hE _ => ⟨r2, w2, N2, f1, w1, N3, ⟨F2.1, hE⟩, hb, fun r4 H4 σ4 R4 n4 q4 => ?_⟩⟩
        have n24 := n2.trans R1 n4
        cases f1 with
        | nx => exact ⟨r4, w1, N3, ⟨R4, q4⟩, n24, run3⟩
        | ct => exact ⟨r4, w1, N3, ⟨R4, q4⟩, n24, run3⟩
        | bk => cases run3; exact P1 r4 H4 σ4 R4 n24 q4
        | rt d => cases run3; exact P1 r4 H4 σ4 R4 n24 q4
      · cases hb
    · have ei : i = ds.length := by omega
      subst ei
      rw [List.drop_length] at run
      unfold forL at run
      split at run
      · rename_i st
        cases run
        exact .inl ⟨dr.stop r2 H2 _ F2.1 n2 st, P1 r2 H2 σ2 F2.1 n2 F2.2⟩
      · cases run
end
end Ev
namespace Ev
open PySem PySem.W L2 PyProof.Rows
section
variable [Tab] {X : Cx} {cf : Cf} {e a b c o tg iter : Expr} {ca cb cc co ce : E} {pos p py : Pos} {es : List Expr} {ces : Es} {i : Nat} {x y : Str}
/-! ### x op= y -/
def RIp (K : Frg) (mg : Str → Option Value) (o : Op2) : TIp := fun x y H Q => ∃ r M a b d M' H0, Rel K mg r H M ∧ RV K r H a x ∧ RA K H0 r H b y ∧ opi o a b M = some (d, M') ∧ PoD K mg r H d M' Q
theorem PIp.evI {op : Operator} {t t' : TIp} (h : PIp X op t) (i : ∀ x y H Q, t' x y H Q → t x y H Q) : PIp X op t' := fun pins s σ H x y v u Q I r1 r2 z => h pins s σ H x y v u Q I r1 r2 (i _ _ _ _ z)
theorem PIp.evOr {op : Operator} {t t' : TIp} (h : PIp X op t) (h' : PIp X op t') : PIp X op (fun x y H Q => t x y H Q ∨ t' x y H Q) := fun pins s σ H x y v u Q I r1 r2 z => z.elim (h pins s σ H x y v u Q I r1 r2) (h' pins s σ H x y v u Q I r1 r2)
theorem i_add : PIp X .Add (RIp X.K X.mg .add) := by
  refine PIp.evI (PIp.evOr ip_add (t' := fun x y H Q => ∃ i j, x = .str i ∧ y = .str j ∧ i.length + j.length ≤ sizeLine ∧ Q (.str (i ++ j)) H) iop_add_str) fun x y H Q z => ?_
  obtain ⟨r, M, a, b, d, M', H0, R, qa, qb, e, P⟩ := z
  unfold opi at e
  split at e
  · rename_i i j
    cases e; cases qa; cases qb
    exact .inl ⟨i, j, rfl, rfl, P r H _ R Nx.rfl' rfl⟩
  · rename_i s t
    have e : (if s.length + t.length ≤ line then some (D.str (s ++ t), M) else none) = some (d, M') := e
    split at e
    · rename_i hl
      cases e; cases qa; cases qb
      exact .inr ⟨s, t, rfl, rfl, Nat.le_trans hl line_le, P r H _ R Nx.rfl' rfl⟩
    · cases e
  · cases e
theorem i_sub : PIp X .Sub (RIp X.K X.mg .sub) := by
  refine PIp.evI (t := _) ip_sub fun x y H Q z => ?_
  obtain ⟨r, M, a, b, d, M', H0, R, qa, qb, e, P⟩ := z
  unfold opi at e
  split at e
  · rename_i i j
    cases e; cases qa; cases qb
    exact ⟨i, j, rfl, rfl, P r H _ R Nx.rfl' rfl⟩
  · cases e
  · cases e
theorem i_mul : PIp X .Mult (RIp X.K X.mg .mul) := by
  refine PIp.evI (t := _) iop_mul fun x y H Q z => ?_
  obtain ⟨r, M, a, b, d, M', H0, R, qa, qb, e, P⟩ := z
  unfold opi at e
  split at e
  · rename_i i j
    have e : (if mulOk i j = true then some (D.int (i * j), M) else none) = some (d, M') := e
    split at e
    · rename_i hk
      cases e; cases qa; cases qb
      refine ⟨i, j, rfl, rfl, ?_, P r H _ R Nx.rfl' rfl⟩
      unfold mulOk at hk
      rw [Bool.or_eq_true, Bool.and_eq_true, Bool.and_eq_true, decide_eq_true_eq, decide_eq_true_eq, decide_eq_true_eq, decide_eq_true_eq] at hk
      exact hk
    · cases e
  · cases e
  · cases e
theorem i_fdiv : PIp X .FloorDiv (RIp X.K X.mg .fdiv) := by
  refine PIp.evI (t := _) iop_fdiv fun x y H Q z => ?_
  obtain ⟨r, M, a, b, d, M', H0, R, qa, qb, e, P⟩ := z
  unfold opi at e
  split at e
  · rename_i i j
    have e : (if 0 < j ∧ j < 1073741824 then some (D.int (i / j), M) else none) = some (d, M') := e
    split at e
    · rename_i hk
      cases e; cases qa; cases qb
      exact ⟨i, j, rfl, rfl, hk, P r H _ R Nx.rfl' rfl⟩
    · cases e
  · cases e
  · cases e
theorem s_aug {op : Operator} {q : Op2} (ho : PIp X op (RIp X.K X.mg q)) (hN : X.N.Nodup) (hi : X.N[i]? = some x) (hx : Loc X.env.scope x) (hf : X.fn x = true ∨ X.env.scope.names.lookup x = some .local) (h : CE X cf e ce) : PS X (.AugAssign (.Name x py) op e pos) (TrS cf X.K X.mg (.aug i q ce)) :=
  (ps_aug hN hi hx h.pe ho hf).evI fun D σ H z => by
    obtain ⟨r, v, M, fl, v2, M2, F, e, P⟩ := z
    unfold ex at e
    split at e
    · rename_i d hd
      obtain ⟨y, N1, g1, e1⟩ := bnd_eq e
      obtain ⟨d2, N2, g2, e2⟩ := bnd_eq e1
      cases e2
      obtain ⟨xv, hx, hv⟩ := F.2.2 i d hd
      refine ⟨xv, hx, r, v, M, y, N1, F, g1, fun r1 H1 x1 R1 n1 q1 => ⟨r1, N1, d, y, d2, _, H, R1, RV.nx F.1 n1 hv, q1, g2, fun r2 H2 x2 R2 n2 q2 => ?_⟩⟩
      have n := n1.trans F.1 n2
      exact P r2 H2 _ R2 n ((F.2.nx F.1 n).set i q2)
    · cases e
/-- an item, by values -/
theorem get_ok (hu : X.A.units + 1 < cLine) : PGet X (fun o i H Q => ∃ r M a k d H0, Rel X.K X.mg r H M ∧ RA X.K H0 r H (.v a) o ∧ RV X.K r H k i ∧ ixD M (.v a) k = some d ∧ (∀ x, RV X.K r H d x → Q x H)) := by
  intro pins s σ H o i ov iv Q I r1 r2 z
  obtain ⟨r, M, a, k, d, H0, R, qa, qk, e, P⟩ := z
  have lst : ∀ ds j, itemsOf M (.v a) = some ds → k = .int j → atI ds j = some d → wpAny (model X.prog X.w) X.A (getItem ov iv) (EP X pins σ Q) X.xe s := fun ds j h1 hk h3 => by
    subst hk
    obtain ⟨p, vs, rfl, sv, hl, hs⟩ := items_sq R qa h1
    obtain ⟨u, h4, h5⟩ := sv.atI h3
    cases r1; cases qk
    obtain ⟨t, rfl⟩ := r2
    obtain ⟨m, k1, k2, k3, k4, k5⟩ := atI_get h4
    have hn := line63
    rcases hs with ⟨hs, _⟩ | ⟨hs, _⟩
    · obtain ⟨its, rv, pl, hz⟩ := I.list hs
      obtain ⟨w, ew, rw'⟩ := rv.get k2
      have hl := rv.length
      by_cases h0 : 0 ≤ j
      · have hj : j.toNat = m := by
          rw [seqIndex_of h0 k5] at k1
          exact Option.some.inj k1
        exact wpAny_getItem_list pl.isList h0 (by omega) (by rw [hj]; simpa using ew) ⟨u, H, I, rw', P u h5⟩
      · have hj : (j + (its.toArray.size : Int)).toNat = m := by
          rw [seqIndex_neg (by omega) k4] at k1
          rw [List.size_toArray, ← hl]
          exact Option.some.inj k1
        exact wpAny_getItem_list_neg pl.isList (by omega) (by rw [List.size_toArray] <;> omega) (by omega) (by rw [hj]; simpa using ew) ⟨u, H, I, rw', P u h5⟩
    · obtain ⟨its, rv, pl, hz⟩ := I.tuple hs
      obtain ⟨w, ew, rw'⟩ := rv.get k2
      have hl := rv.length
      exact getItem_tuple (j := m) pl (by omega) (by omega) (by rw [List.size_toArray, ← hl]; exact k1) (by simpa using ew) ⟨u, H, I, rw', P u h5⟩
  unfold ixD at e
  split at e
  · rename_i n _ heq
    cases heq
    split at e
    · rename_i ds hm
      split at e
      · exact lst ds _ (itemsOf_ref hm) rfl e
      · cases e
    · rename_i t kvs hm
      split at e
      · rename_i hk
        obtain ⟨p, rfl, hp⟩ := qa
        obtain ⟨p', o, hp', _, hg, ho⟩ := dic_get R hm hk qk
        rw [hp] at hp'; cases hp'
        cases r1
        rcases ho with ⟨h, _⟩ | ⟨d2, x2, h, rfl, h3⟩
        · rw [e] at h; cases h
        · rw [e] at h; cases h
          exact d_getItem hu I hg r2 fun w s' I' rw' => ⟨x2, H, I', rw', P x2 h3⟩
      · cases e
    · cases e
  · split at e
    · rename_i ds hm
      exact lst ds _ hm rfl e
    · cases e
  · cases e
theorem augStore_ok {ov iv new : Value} (h : noSlice b = true) : augStore b ov iv new = (do holding [new, ov, iv] (setItem ov iv new); release [new, ov, iv] []; pure .next) := by
  cases b <;> first | rfl | cases h
theorem s_augs {op : Operator} {q : Op2} (hu : X.A.units + 1 < cLine) (ho : PIp X op (RIp X.K X.mg q)) (ha : CE X cf a ca) (hb : CE X cf b cb) (h : CE X cf e ce) (hk : noSlice b = true) : PS X (.AugAssign (.Subscript a b py) op e pos) (TrS cf X.K X.mg (.augs ca cb q ce)) :=
  (ps_augS ha.pd hb.pd (get_ok hu) h.pe ho (set_ok hu) (fun _ _ _ => augStore_ok hk)).evI fun D σ H z => by
    obtain ⟨r, v, M, fl, v2, M2, F, e, P⟩ := z
    unfold ex at e
    obtain ⟨a', N1, g1, e1⟩ := bnd_eq e
    obtain ⟨k', N2, g2, e2⟩ := bnd_eq e1
    split at e2
    · rename_i d hd
      obtain ⟨y, N3, g3, e3⟩ := bnd_eq e2
      obtain ⟨d2, N4, g4, e4⟩ := bnd_eq e3
      obtain ⟨N5, g5, e5⟩ := Option.map_eq_some_iff.mp e4
      cases e5
      refine ⟨r, v, M, a', N1, F, g1, fun r1 H1 x1 R1 n1 q1 => ⟨r1, v, N1, k', N2, F.nx R1 n1, g2, fun r2 H2 x2 R2 n2 q2 => ⟨r2, N2, a', k', d, H2, R2, RV.nx R1 n2 q1, q2, hd, fun x3 q3 => ?_⟩⟩⟩
      have F2 := (F.nx R1 n1).nx R2 n2
      refine ⟨r2, v, N2, y, N3, F2, g3, fun r3 H3 y3 R3 n3 q4 => ⟨r3, N3, d, y, d2, N4, H2, R3, RV.nx R2 n3 q3, q4, g4, fun r4 H4 x4 R4 n4 q5 => ?_⟩⟩
      have n34 := n3.trans R2 n4
      have n12 := n1.trans F.1 n2
      have n := n12.trans F.1 n34
      exact ⟨r4, N4, a', k', d2, _, R4, RV.nx R2 n34 (RV.nx R1 n2 q1), RV.nx R2 n34 q2, q5, g5, fun H' R' n' => P r4 H' σ R' (n.trans F.1 n') (F.2.nx F.1 (n.trans F.1 n'))⟩
    · cases e2
theorem s_augf {op : Operator} {q : Op2} {f : Nat} (hy : Tab.nm[f]? = some y) (ho : PIp X op (RIp X.K X.mg q)) (ha : CE X cf a ca) (h : CE X cf e ce) : PS X (.AugAssign (.Attribute a y py) op e pos) (TrS cf X.K X.mg (.augf ca f q ce)) :=
  (ps_fldaug (rd := RIp X.K X.mg q) ha.pd h.pe (fun pins s σ H x y u v Q I r1 r2 z => ho pins s σ H x y u v Q I r1 r2 z)).evI fun D σ H z => by
    obtain ⟨r, v, M, fl, v2, M2, F, e, P⟩ := z
    unfold ex at e
    obtain ⟨a', N1, g1, e1⟩ := bnd_eq e
    split at e1
    · rename_i d hd
      obtain ⟨yy, N3, g3, e3⟩ := bnd_eq e1
      obtain ⟨d2, N4, g4, e4⟩ := bnd_eq e3
      split at e4
      case isFalse => cases e4
      rename_i hcls
      obtain ⟨N5, g5, e5⟩ := Option.map_eq_some_iff.mp e4
      cases e5
      refine ⟨r, v, M, a', N1, F, g1, fun r1 H1 x1 R1 n1 q1 => ?_⟩
      unfold getF at hd
      split at hd
      · rename_i n
        split at hd
        · rename_i C fs hm
          split at hd
          · rename_i hC
            have q1' := q1
            obtain ⟨p, rfl, hp⟩ := q1
            obtain ⟨p', hp', x, c, dx, gs, ⟨k1, k2, k3, k4⟩, h1, h2⟩ := R1.at hm
            rw [hp] at hp'; cases hp'
            rcases h2.look hy with ⟨h, _⟩ | ⟨d3, x3, h, h', h3⟩
            · rw [hd] at h; cases h
            · rw [hd] at h; cases h
              refine ⟨p, c, dx, gs, x3, rfl, h1, k3, k4 f y hC hy, h', r1, v, N1, yy, N3, F.nx R1 n1, g3, fun r2 H2 x2 R2 n2 q2 => ⟨r2, N3, d, yy, d2, N4, H1, R2, RV.nx R1 n2 h3, q2, g4, fun r3 H3 z3 R3 n3 q3 => ?_⟩⟩
              have n23 := n2.trans R1 n3
              obtain ⟨p', c', dx', gs', e', h1', h2', h3', h4', R5, n5⟩ := setF_ok R3 hy (RV.nx R1 n23 q1') q3 g5
              cases e'
              have hc : c' = c := by
                have hcl : clsOf N4 (.ref n) = some C := by
                  rw [hcls]
                  show (match N1[n]? with
                    | some (.ins C _) => some C
                    | _ => none) = some C
                  rw [hm]
                have hcl : (match N4[n]? with
                  | some (.ins C _) => some C
                  | _ => none) = some C := hcl
                split at hcl
                · rename_i C' fs' hm'
                  cases hcl
                  obtain ⟨p2, hp2, x', c2, dx2, gs2, ⟨j1, j2, _, _⟩, j5, _⟩ := R3.at hm'
                  rw [n23.get hp] at hp2; cases hp2
                  rw [h1'] at j5; cases j5
                  rw [k1] at j1; cases j1
                  rw [k2] at j2; cases j2
                  rfl
                · cases hcl
              subst hc
              have n := (n1.trans F.1 n23).trans F.1 n5
              exact ⟨dx', gs', h1', h4', P r3 _ σ R5 n (F.2.nx F.1 n)⟩
          · cases hd
        · cases hd
      · cases hd
    · cases e1
end
end Ev
namespace Ev
open PySem PySem.Spec PyProof.Rows L2 HT
/-! ### t[::-1] -/
theorem rev_go {α : Type} : ∀ l : List α, (List.range l.length).filterMap (fun i => l[i]?) = l
  | [] => rfl
  | a :: l => by
    rw [List.length_cons, List.range_succ_eq_map, List.filterMap_cons, List.filterMap_map]
    show a :: (List.range l.length).filterMap (fun i => l[i]?) = a :: l
    rw [rev_go l]
theorem rev_pick (xs : Array Value) : ((List.range xs.size).filterMap fun (m : Nat) => xs[(((xs.size : Nat) : Int) - 1 + (m : Int) * (-1)).toNat]?) = xs.toList.reverse := by
  have e := rev_go xs.toList.reverse
  rw [List.length_reverse, Array.length_toList] at e
  refine Eq.trans ?_ e
  have key : ∀ l : List Nat, (∀ m ∈ l, m < xs.size) → l.filterMap (fun (m : Nat) => xs[(((xs.size : Nat) : Int) - 1 + (m : Int) * (-1)).toNat]?) = l.filterMap fun i => xs.toList.reverse[i]? := by
    intro l
    induction l with
    | nil => intro _; rfl
    | cons m l ih =>
      intro h
      have hm := h m List.mem_cons_self
      rw [List.filterMap_cons, List.filterMap_cons, ih fun k hk => h k (List.mem_cons_of_mem _ hk), List.getElem?_reverse (by rw [Array.length_toList]; exact hm), Array.length_toList, Array.getElem?_toList,
        show (((xs.size : Nat) : Int) - 1 + (m : Int) * (-1)).toNat = xs.size - 1 - m by omega]
  exact key _ fun m hm => List.mem_range.mp hm
section
variable {prog : Program} {w : World} {A : Around} {E : Value → Shared → Prop} {s : Shared}
theorem rev_applied {sl : Addr} {vl vu vs : Value} {n : Nat} {Q : Int × Int × Nat → Shared → Prop} (hs : s.heap.IsSliceOf sl vl vu vs) (pl : IsPart vl none) (pu : IsPart vu none) (ps : IsPart vs (some (-1)))
    (h : Q ((n : Int) - 1, -1, n) s) : wpAny (model prog w) A (Builtin.Slice.sliceApplied (.ref sl) (pure (n : Int))) Q E s := by
  obtain ⟨o, ho, hc, hd⟩ := id hs
  unfold Builtin.Slice.sliceApplied Builtin.Slice.sliceFields
  refine wpAny_bind (wpAny_bind (wpAny_field ho hd (x := vl) rfl (wpAny_bind (wpAny_field ho hd (x := vu) rfl (wpAny_bind (wpAny_field ho hd (x := vs) rfl (wpAny_pure ?_)))))))
  refine wpAny_bind (slicePart_ ps ?_)
  show wpAny _ _ (if ((-1 : Int) == 0) = true then _ else _) _ _ s
  rw [if_neg (by decide)]
  refine wpAny_bind (slicePart_ pl (wpAny_bind (slicePart_ pu (wpAny_bind (wpAny_pure ?_)))))
  show wpAny _ _ (match Builtin.Slice.sliceAdjust none none (-1) (n : Int) with | (lo, hi) => pure (lo, (-1 : Int), Builtin.Slice.slicePlaces lo hi (-1))) _ _ s
  have e1 : Builtin.Slice.sliceAdjust none none (-1) (n : Int) = ((n : Int) - 1, -1) := by
    unfold Builtin.Slice.sliceAdjust
    simp
  have e2 : Builtin.Slice.slicePlaces ((n : Int) - 1) (-1) (-1) = n := by
    unfold Builtin.Slice.slicePlaces
    rw [if_neg (by decide)]
    by_cases c : (n : Int) - 1 > -1
    · rw [if_pos c, show (- -1 : Int) = 1 by decide, Int.ediv_one]; omega
    · rw [if_neg c]; omega
  rw [e1]
  show wpAny _ _ (pure ((n : Int) - 1, (-1 : Int), Builtin.Slice.slicePlaces ((n : Int) - 1) (-1) (-1))) _ _ s
  rw [e2]
  exact wpAny_pure h
theorem rev_tuple {t sl : Addr} {xs : Array Value} {vl vu vs : Value} {Q : Value → Shared → Prop} (ht : IsTup s.heap t xs) (hs : s.heap.IsSliceOf sl vl vu vs) (pl : IsPart vl none) (pu : IsPart vu none) (ps : IsPart vs (some (-1)))
    (h : Q (.ref s.heap.objs.size) { s with heap := s.heap.push { cls := .type "tuple", data := .seq xs.toList.reverse.toArray } }) (hz : xs.size ≤ sizeLine) : wpAny (model prog w) A (getItem (.ref t) (.ref sl)) Q E s := by
  have hok : sizeOk (.seq xs.toList.reverse.toArray) := by
    show xs.toList.reverse.toArray.size ≤ sizeLine
    simpa using hz
  obtain ⟨o, ho, hc, hd⟩ := id hs
  have hT : s.TypeIs (.ref sl) "slice" := ⟨o, ho, hc⟩
  unfold getItem
  try with_reducible refine wpAny_holding ?_
  first | refine wpAny_bind (wpAny_pure ?_) | skip
  refine wpAny_bind (wpAny_sequenceKey ht.typeIs (by decide) (wpAny_bind (wpAny_callSpecial?_slot (name := Str.ofString "__getitem__") ht.typeIs PyProof.Rows.slot_tuple_getitem
    (wpAny_call_entry PyProof.Rows.slot_tuple_getitem ht.typeIs entry_tuple_getitem ?_ (args_tuple_getitem _ _)))))
  show wpAny _ _ (Builtin.Tuple.tupleItemsOf (.ref t) >>= _) _ _ s
  refine wpAny_bind (tupleItemsOf_ ht (wpAny_bind (wpAny_typeOf hT ?_)))
  rw [if_pos (by decide)]
  refine wpAny_bind (rev_applied hs pl pu ps ?_)
  have no : ¬ ((((xs.size : Nat) : Int) - 1 == 0 && (-1 : Int) == 1 && xs.size == xs.size) = true) := by
    intro q
    rw [Bool.and_eq_true, Bool.and_eq_true] at q
    exact absurd q.1.2 (by decide)
  show wpAny _ _ (if ((((xs.size : Nat) : Int) - 1 == 0 && (-1 : Int) == 1 && xs.size == xs.size) = true) then _ else _) _ _ s
  rw [if_neg no, rev_pick]
  first
    | exact wpAny_bind (m := Builtin.Tuple.tupleExact _) (wpAny_newObj_type (wpAny_pure ⟨_, rfl, wpAny_pure h⟩) hok)
    | exact wpAny_bind (m := Builtin.Tuple.tupleExact _) (wpAny_newObj_type (wpAny_bind (wpAny_pure (wpAny_pure ⟨_, rfl, wpAny_pure h⟩))) hok)
    | exact wpAny_bind (wpAny_bind (m := Builtin.Tuple.tupleExact _) (wpAny_newObj_type (wpAny_pure (wpAny_pure ⟨_, rfl, wpAny_pure h⟩)) hok))
    | exact wpAny_bind (wpAny_bind (m := Builtin.Tuple.tupleExact _) (wpAny_newObj_type (wpAny_pure ⟨_, rfl, wpAny_pure h⟩) hok))
end
section
variable {X : Cx}
def tRevB (K : PySem.W.Frag) (te : TE) : TE := fun σ H Q => te σ H fun x H1 => ∃ a xs, x = .ref a ∧ ((SqL K H1 a xs ∧ ∀ p, H1 p = none → Q (.ref p) (upd H1 p (.lst xs.reverse))) ∨ (SqT K H1 a xs ∧ ∀ p, H1 p = none → Q (.ref p) (upd H1 p (.tup xs.reverse))))
theorem pe_revB {e : Expr} {te : TE} {k : Nat} {p1 p2 p3 pos : Pos} (he : PE X e te) : PE X (.Subscript e (.Slice none none (some (.UnaryOp .USub (.Constant (.int 1) k p1) p2)) p3) pos) (tRevB X.K te) := by
  refine ⟨fun pins s σ H Q I h => Subscript_ (thn (he.run pins s σ H _ I h) fun v s1 ⟨x, H1, I1, r1, q1⟩ => ?_)⟩
  obtain ⟨a, xs, ex, q⟩ := q1
  subst ex; cases r1
  have hst : PO X (some (.UnaryOp .USub (.Constant (.int 1) k p1) p2)) (tPart (tUn (rU fun i => .int (-i)) (tC (.int 1)))) := po_some (pe_un un_neg pe_int)
  refine wpAny_Slice (thn (po_none.run pins s1 σ H1 (fun o G => o = none ∧ G = H1) I1 ⟨rfl, rfl⟩) fun vl s2 ⟨l, H2, I2, pl, el, e2⟩ => ?_)
  subst el e2
  refine thn (po_none.run pins s2 σ H2 (fun o G => o = none ∧ G = H2) I2 ⟨rfl, rfl⟩) fun vu s3 ⟨u, H3, I3, pu, eu, e3⟩ => ?_
  subst eu e3
  refine thn (hst.run pins s3 σ H3 (fun o G => o = some (-1) ∧ G = H3) I3 ⟨1, rfl, -1, rfl, rfl, rfl⟩) fun vs s4 ⟨o, H4, I4, ps, eo, e4⟩ => ?_
  subst eo e4
  have I5 : Inv X pins σ H4 { s4 with heap := s4.heap.push { cls := .type "slice", data := .fields #[vl, vu, vs] } } := I4.kept (t' := s4.toks) fun b ob q => Heap.get?_push_of_some _ q
  show wpAny (model X.prog X.w) X.A (subscriptTail e (.Slice none none (some (.UnaryOp .USub (.Constant (.int 1) k p1) p2)) p3) (.ref a) (.ref s4.heap.objs.size)) (EP X pins σ Q) X.xe { s4 with heap := s4.heap.push { cls := .type "slice", data := .fields #[vl, vu, vs] } }
  rcases q with ⟨hx, q⟩ | ⟨hx, q⟩
  · obtain ⟨its, r, ht, hz⟩ := I5.list hx
    have hlen := r.length
    refine tail_any (ops := [.ref a, .ref s4.heap.objs.size]) ht.isList.typeIs (PySem.slot_list_getitem.lookup) (wpAny_getItem_list_slice ht.isList (Heap.IsSliceOf.new _ vl vu vs) pl pu ps (by decide) ?_ (by rw [List.size_toArray]; omega)) (by with_unfolding_all rfl)
    rw [PySem.W.krv_pick]
    exact ⟨.ref _, _, I5.laid (t' := s4.toks) (o := .lst xs.reverse) (fun b ob q => Heap.get?_push_of_some _ q) (Nat.le_refl _) ⟨by rw [List.length_reverse]; exact hz, _, 0, r.reverse, Heap.get?_push_size _ rfl⟩, rfl, q _ (I5.hok.fresh (Nat.le_refl _))⟩
  · obtain ⟨its, r, ht, hz⟩ := I5.tuple hx
    have hlen := r.length
    refine tail_any (ops := [.ref a, .ref s4.heap.objs.size]) ht.typeIs PyProof.Rows.slot_tuple_getitem.lookup (rev_tuple ht (Heap.IsSliceOf.new _ vl vu vs) pl pu ps ?_ (by rw [List.size_toArray]; omega)) (by with_unfolding_all rfl)
    exact ⟨.ref _, _, I5.laid (t' := s4.toks) (o := .tup xs.reverse) (fun b ob q => Heap.get?_push_of_some _ q) (Nat.le_refl _) ⟨by rw [List.length_reverse]; exact hz, _, r.reverse, IsTup.new _ _⟩, rfl, q _ (I5.hok.fresh (Nat.le_refl _))⟩
end
end Ev
namespace Ev
open PySem PySem.W L2 PyProof.Rows
section
variable [Tab] {X : Cx} {cf : Cf} {e a b c o tg iter : Expr} {ca cb cc co ce : E} {pos p py : Pos} {es : List Expr} {ces : Es} {i : Nat} {x y : Str}
/-! ### several names at once -/
def setsV : List (Nat × Str) → List V → L2.St → L2.St
  | q :: qs, v :: vs, σ => setsV qs vs (σ.set q.1 (some v))
  | _, _, σ => σ
theorem par_stores {Xe : Value → Shared → Prop} : ∀ {qs : List (Nat × Str)} {vs : List V} {us : List Value} {pins : List (Addr × Obj)} {σ : L2.St} {H : Hp} {s : Shared} {Q : Unit → Shared → Prop}, X.N.Nodup → (∀ q ∈ qs, X.N[q.1]? = some q.2 ∧ X.env.scope.names.lookup q.2 = some .local) →
    L2.Inv X pins σ H s → Vals vs us → vs.length = qs.length → (∀ s', L2.Inv X pins (setsV qs vs σ) H s' → Q () s') → wpAny (model X.prog X.w) X.A (assignInOrder (qs.map fun q => fun v => bindName X.env q.2 v) us) Q Xe s
  | [], [], _, pins, σ, H, s, Q, _, _, I, r, _, h => by cases r; exact assignInOrder_nil (h s I)
  | q :: qs, v :: vs, _, pins, σ, H, s, Q, hN, hq, I, r, hl, h => by
    cases r with
    | cons r1 r2 =>
      have h1 := hq q (.head _)
      refine assignInOrder_cons (wpAny_bindName (store_ok I hN h1.1 (.inl h1.2) r1 (fun s2 I2 => ?_) (.inr h1.2)))
      exact par_stores hN (fun q' hq' => hq q' (.tail _ hq')) I2 r2 (by simpa using hl) h
  | [], _ :: _, _, _, _, _, _, _, _, _, _, _, hl, _ => by simp at hl
  | _ :: _, [], _, _, _, _, _, _, _, _, _, _, hl, _ => by simp at hl
theorem setAll_RE {K : Frg} {r : List Addr} {H : Hp} : ∀ {qs : List (Nat × Str)} {ds : List D} {vs : List V} {v : Env} {σ : L2.St}, RVs K r H ds vs → RE K r H v σ → RE K r H (setAll (qs.map (·.1)) ds v) (setsV qs vs σ)
  | [], _, _, _, _, _, h => by
    rename_i ds vs v σ
    cases ds <;> cases vs <;> exact h
  | q :: qs, [], _, _, _, hv, h => by cases hv; exact h
  | q :: qs, d :: ds, _, _, _, ⟨x, ws, e, hx, hs⟩, h => by
    subst e
    exact setAll_RE (qs := qs) hs (h.set q.1 hx)
theorem RVs.reverse {K : Frg} {r : List Addr} {H : Hp} : ∀ {ds : List D} {vs : List V}, RVs K r H ds vs → RVs K r H ds.reverse vs.reverse
  | [], _, h => by cases h; exact rfl
  | d :: ds, _, ⟨x, ws, e, hx, hs⟩ => by
    subst e
    rw [List.reverse_cons, List.reverse_cons]
    exact (RVs.reverse hs).append (RVs.one hx)
theorem s_par {qs : List (Nat × Str)} {kt k2 : Nat} {pt pt2 : Pos} {ts : List Expr} (hc : X.calm = true) (hN : X.N.Nodup) (hq : ∀ q ∈ qs, X.N[q.1]? = some q.2 ∧ X.env.scope.names.lookup q.2 = some .local) (ha : PA X es (TrDs cf X.K X.mg ces))
    (hw : swappedStores [.Tuple ts kt pt] (.Tuple es k2 pt2) X.env = pure (some (qs.map (·.2)))) :
    PS X (.Assign [.Tuple ts kt pt] (.Tuple es k2 pt2) pos) (TrS cf X.K X.mg (.par (qs.map (·.1)) ces)) := by
  refine ⟨fun pins s σ H D I z => ?_⟩
  obtain ⟨r, v, M, fl, v2, M2, F, e, P⟩ := z
  unfold ex at e
  obtain ⟨ds, N1, g1, e1⟩ := bnd_eq e
  split at e1
  case isFalse => cases e1
  rename_i hlen
  cases e1
  rw [exec_Assign_arm]
  refine wpAny_bind (wpAny_standAt ?_)
  have hsw : swapsWithSole [.Tuple ts kt pt] (.Tuple es k2 pt2) pos.line X.env = pure false := rfl
  rw [hsw]
  refine wpAny_bind (wpAny_pure ?_)
  rw [if_neg (by decide)]
  refine wpAny_bind (Tuple_ (thn (ha.run _ pins s σ H _ I ⟨r, v, M, ds, _, F, g1, fun r1 H1 xs R1 n1 q1 => (⟨r1, R1, n1, q1⟩ : ∃ r1, Rel X.K X.mg r1 H1 M2 ∧ Nx r H r1 H1 ∧ RVs X.K r1 H1 ds xs)⟩) fun us s1 w => ?_))
  obtain ⟨vs, H1, I1, rv, r1, R1, n1, q1⟩ := w
  have hl1 : ds.length = qs.length := by rw [← hlen.1, List.length_map]
  have hvl : vs.length = qs.length := by rw [← q1.length]; exact hl1
  have h3 : us.length ≤ 3 := by rw [← rv.length, hvl, ← hl1, ← hlen.1]; exact Nat.le_of_lt_succ hlen.2.2
  refine wpAny_newObj_type ?_ (by show us.toArray.size ≤ sizeLine; rw [List.size_toArray, sizeLine_eq]; omega)
  have I2 : L2.Inv X pins σ H1 { s1 with heap := s1.heap.push { cls := .type "tuple", data := .seq us.toArray } } := I1.kept (t' := s1.toks) fun b o e => Heap.get?_push_of_some _ e
  rw [hw]
  refine wpAny_bind (wpAny_pure ?_)
  unfold assignStores
  simp only []
  have hus : (qs.map (·.2)).length = us.toArray.size := by rw [List.length_map, List.size_toArray, ← rv.length, hvl]
  rw [hus]
  refine wpAny_bind (wpAny_rule (wpAny_bind (unpackItems_tuple (items := us.toArray) (I.ok.hd hc) (IsTup.new s1.heap _) fun h' hx' => ?_)))
  have I3 := I2.kept (h' := h') (t' := s1.toks) fun b o e => hx' b o (Nat.ne_of_lt (Heap.lt_size e)) e
  have em : ((qs.map (·.2)).reverse.map fun n => bindName X.env n) = qs.reverse.map fun q => fun v => bindName X.env q.2 v := by
    rw [← List.map_reverse, List.map_map]; rfl
  rw [em, List.toList_toArray]
  refine wpAny_bind (par_stores hN (fun q hq' => hq q (List.mem_reverse.mp hq')) I3 (Vals.reverse rv) (by rw [List.length_reverse, List.length_reverse, hvl]) fun s2 I4 => wpAny_pure ?_)
  refine ⟨_, H1, I4, P r1 H1 _ R1 n1 ?_⟩
  have := setAll_RE (qs := qs.reverse) (RVs.reverse q1) (F.2.nx F.1 n1)
  rw [List.map_reverse] at this
  exact this
/-! ### written dicts -/
def RPs (K : Frg) (r : List Addr) (H : Hp) : List (D × D) → List (V × V) → Prop
  | [], ps => ps = []
  | p :: kvs, ps => ∃ x y qs, ps = (x, y) :: qs ∧ RV K r H p.1 x ∧ RV K r H p.2 y ∧ RPs K r H kvs qs
def interE : List (E × E) → Es
  | [] => .nil
  | p :: ps => .cons p.1 (.cons p.2 (interE ps))
theorem pairs_run {K : Frg} {mg : Str → Option Value} : ∀ (cks : List (E × E)) {σ : L2.St} {r : List Addr} {v : Env} {M M' : Mem} {H : Hp} {ds : List D} {Q : List (V × V) → Hp → Prop}, Fr0 K mg σ H r v M → evs cf (interE cks) v M = some (ds, M') →
    (∀ r' H' ps kvs, pairUp ds = some kvs → Rel K mg r' H' M' → Nx r H r' H' → RPs K r' H' kvs ps → Q ps H') → tPairs (cks.map fun p => (TrD cf K mg p.1, TrD cf K mg p.2)) σ H Q
  | [], σ, r, v, M, M', H, ds, Q, F, e, P => by cases e; exact P r H [] [] rfl F.1 Nx.rfl' rfl
  | q :: cks, σ, r, v, M, M', H, ds, Q, F, e, P => by
    unfold interE evs at e
    obtain ⟨x, N1, g1, e1⟩ := bnd_eq e
    obtain ⟨k, N2, g2, e2⟩ := bnd_eq e1
    obtain ⟨ds', N3, g3, e3⟩ := bnd_eq e2
    cases e3
    unfold evs at g3
    obtain ⟨y, N4, g4, e4⟩ := bnd_eq g3
    obtain ⟨d, N5, g5, e5⟩ := bnd_eq e4
    obtain ⟨ds2, N6, g6, e6⟩ := bnd_eq e5
    cases e6
    refine ⟨r, v, M, k, N2, F, by show bnd _ _ = _; rw [g1]; exact g2, fun r1 H1 x1 R1 n1 q1 => ⟨r1, v, N2, d, N5, F.nx R1 n1, by show bnd _ _ = _; rw [g4]; exact g5, fun r2 H2 x2 R2 n2 q2 => ?_⟩⟩
    refine pairs_run cks ((F.nx R1 n1).nx R2 n2) g6 fun r3 H3 ps kvs hp R3 n3 q3 => ?_
    refine P r3 H3 _ ((k, d) :: kvs) ?_ R3 ((n1.trans F.1 n2).trans F.1 n3) ⟨x1, x2, ps, rfl, RV.nx R2 n3 (RV.nx R1 n2 q1), RV.nx R2 n3 q2, q3⟩
    show (pairUp ds2).map ((k, d) :: ·) = _
    rw [hp]; rfl
theorem RPs.keysK {K : Frg} {r : List Addr} {H : Hp} : ∀ {kvs : List (D × D)} {ps : List (V × V)}, RPs K r H kvs ps → kvs.all (fun p => isKey false p.1) = true → ∃ ks : List (Key × V), ps = ks.map (fun kv => (kV kv.1, kv.2)) ∧ Paired (RKV K r H kD) kvs ks
  | [], _, h, _ => by cases h; exact ⟨[], rfl, .nil⟩
  | p :: kvs, _, ⟨x, y, qs, e, h1, h2, h3⟩, z => by
    rw [List.all_cons, Bool.and_eq_true] at z
    obtain ⟨ks, e2, h4⟩ := RPs.keysK h3 z.2
    obtain ⟨k, hk⟩ := keyK_of (d := p.1) z.1
    rw [hk] at h1
    have := RV.key h1
    subst this
    exact ⟨(k, y) :: ks, by rw [e, e2]; rfl, .cons ⟨hk, h2⟩ h4⟩
theorem merge_rel {K : Frg} {r : List Addr} {H : Hp} : ∀ {more : List (D × D)} {ms : List (Key × V)} {kvs : List (D × D)} {ks : List (Key × V)}, Paired (RKV K r H kD) more ms → Paired (RKV K r H kD) kvs ks → Paired (RKV K r H kD) (dmerge kvs more) (mergeK ks ms) := by
  intro more ms kvs ks h
  induction h generalizing kvs ks with
  | nil => intro q; exact q
  | @cons p q ps qs z _ ih =>
    intro w
    have := dput_rel kD_inj w q.1 z.2
    rw [← z.1] at this
    exact ih this
theorem dmerge_length : ∀ (more kvs : List (D × D)), (dmerge kvs more).length ≤ kvs.length + more.length
  | [], kvs => Nat.le_refl _
  | p :: more, kvs => by
    have h1 := dmerge_length more (dput kvs p.1 p.2)
    have h2 := dput_length kvs p.1 p.2
    show (dmerge (dput kvs p.1 p.2) more).length ≤ _
    rw [List.length_cons]; omega
theorem ce_dicK {keys : List (Option Expr)} {values : List Expr} {cks : List (E × E)} (h : PPs X pos keys values (cks.map fun p => (TrD cf X.K X.mg p.1, TrD cf X.K X.mg p.2))) (hall : keys.all (·.isSome) = true) (hl : keys.length = values.length) (h0 : keys ≠ []) (h15 : keys.length ≤ 15) :
    CE X cf (.Dict keys values pos) (.dic false (interE cks)) :=
  CE.of ((pe_disp h hall hl h0 h15).evI fun σ H Q z => by
    obtain ⟨r, v, M, d, M', F, e, P⟩ := z
    obtain ⟨ds, N1, g1, e1⟩ := bnd_eq e
    split at e1
    case h_2 => cases e1
    rename_i kvs hp
    split at e1
    case isFalse => cases e1
    rename_i hc
    cases e1
    intro q hq
    have n1 := Nx.upd (o := .dK []) F.1 hq
    refine pairs_run cks (F.nx (F.1.upd (F.1.off hq) n1) n1) g1 fun r2 H2 ps kvs' hp' R2 n2 q2 => ?_
    rw [hp] at hp'; cases hp'
    have hq2 : H2 q = some (.dK []) := n2.fr _ _ upd_same (F.1.off hq)
    obtain ⟨ks, e2, h4⟩ := q2.keysK hc.2
    refine ⟨hq2, ks, e2, by rw [← Paired.length h4]; exact hc.1, ?_⟩
    have hqr : q ∉ r2 := fun w => by have := n2.new q w (F.1.off hq); rw [upd_same] at this; cases this
    have n12 := n1.trans F.1 n2
    have w : Wk r2 H2 (r2 ++ [q]) (L2.upd H2 q (.dK (mergeK [] ks))) := ⟨⟨[q], rfl⟩, (Wk.turn (r := r2) hq2 True.intro).im⟩
    have hm := merge_rel h4 (Paired.nil (F := RKV X.K r2 H2 kD))
    have hlen : (dmerge [] kvs).length ≤ sizeLine := Nat.le_trans (dmerge_length kvs []) (by rw [List.length_nil, Nat.zero_add, sizeLine_eq]; omega)
    refine P (r2 ++ [q]) _ _ (R2.join hqr w (fun a ha => upd_ne fun e => hqr (e ▸ ha)) ⟨_, upd_same, hlen, Paired.mapP hm fun _ _ z => RKV.wk w z⟩) ⟨?_, fun b u hb hbr => ?_, fun b hb hbr => ?_⟩ ⟨q, rfl, ?_⟩
    · obtain ⟨t, ht⟩ := n12.pre
      exact ⟨t ++ [q], by rw [ht, List.append_assoc]⟩
    · rw [upd_ne (ne_of_none hb hq)]; exact n12.fr b u hb hbr
    · rcases List.mem_append.mp hb with hb | hb
      · exact n12.new b hb hbr
      · rw [List.mem_singleton] at hb; rw [hb]; exact hq
    · rw [← R2.len, List.getElem?_append_right (Nat.le_refl _), Nat.sub_self]; rfl) fun _ => rfl
theorem ce_dic0 {t : Bool} : CE X cf (.Dict [] [] pos) (.dic t .nil) := by
  cases t with
  | false =>
    exact CE.of (pe_dnewK.evI fun σ H Q z => by
      obtain ⟨r, v, M, d, M', F, e, P⟩ := z
      cases e
      intro q hq
      have n2 := Nx.add (o := .dK []) F.1 hq
      exact P _ _ _ (F.1.add hq n2 ⟨[], upd_same, Nat.zero_le _, .nil⟩) n2 ⟨q, rfl, by rw [← F.1.len, List.getElem?_append_right (Nat.le_refl _), Nat.sub_self]; rfl⟩) fun _ => rfl
  | true =>
    exact CE.of (pe_dnewT.evI fun σ H Q z => by
      obtain ⟨r, v, M, d, M', F, e, P⟩ := z
      cases e
      intro q hq
      have n2 := Nx.add (o := .dT []) F.1 hq
      exact P _ _ _ (F.1.add hq n2 ⟨[], upd_same, Nat.zero_le _, .nil⟩) n2 ⟨q, rfl, by rw [← F.1.len, List.getElem?_append_right (Nat.le_refl _), Nat.sub_self]; rfl⟩) fun _ => rfl
theorem ce_rev {a : Expr} {ca : E} {pos : Pos} {j : Nat} {p1 p2 p3 : Pos} (ha : CE X cf a ca) : CE X cf (.Subscript a (.Slice none none (some (.UnaryOp .USub (.Constant (.int 1) j p1) p2)) p3) pos) (.rev ca) :=
  CE.of ((pe_revB ha.pe).evI fun σ H Q z => by
    obtain ⟨r, v, M, d, M', F, e, P⟩ := z
    obtain ⟨x, N1, g1, e1⟩ := bnd_eq e
    refine ⟨r, v, M, x, N1, F, g1, fun r1 H1 x1 R1 n1 q1 => ?_⟩
    have done : ∀ ds, itemsOf N1 x = some ds → (∀ es, x ≠ .v (.tup es) ∧ x ≠ .v (.xt es)) → revA x N1 = some (d, M') → ∃ a xs, x1 = .ref a ∧ ((SqL X.K H1 a xs ∧ ∀ p, H1 p = none → Q (.ref p) (L2.upd H1 p (.lst xs.reverse))) ∨ (SqT X.K H1 a xs ∧ ∀ p, H1 p = none → Q (.ref p) (L2.upd H1 p (.tup xs.reverse)))) := fun ds hd hn e => by
      have e' : d = .l ds.reverse ∧ M' = N1 := by
        unfold revA at e
        split at e
        · rename_i es; exact ((hn es).1 rfl).elim
        · cases e
        · rw [hd] at e
          obtain ⟨rfl, rfl⟩ := Prod.mk.inj (Option.some.inj e)
          exact ⟨rfl, rfl⟩
      obtain ⟨rfl, rfl⟩ := e'
      obtain ⟨p, vs, rfl, s, l, hq⟩ := items_sq R1 q1 hd
      rcases hq with ⟨hq, _⟩ | ⟨_, ⟨_, hq⟩ | hq⟩
      · refine ⟨p, vs, rfl, .inl ⟨hq, fun u hu => ?_⟩⟩
        have n2 := Nx.upd (o := .lst vs.reverse) R1 hu
        exact (P.nx F.1 R1 n1) r1 _ _ (R1.upd (R1.off hu) n2) n2 ⟨u, _, rfl, hu, R1.off hu, upd_same, by rw [List.length_reverse]; exact l, (s.reverse).nx R1 n2⟩
      · exact ((hn _).1 hq).elim
      · exact ((hn _).2 hq).elim
    cases x with
    | l es => exact done es rfl (fun _ => ⟨(fun h => nomatch h), (fun h => nomatch h)⟩) e1
    | v y =>
      cases hy : y with
      | tup es =>
        subst hy
        have e2 : some (A.v (.tup es.reverse), N1) = some (d, M') := e1
        obtain ⟨rfl, rfl⟩ := Prod.mk.inj (Option.some.inj e2)
        obtain ⟨p, vs, rfl, s, l, hq⟩ := items_sq R1 q1 (ds := es) rfl
        rcases hq with ⟨_, hn⟩ | ⟨hq, _⟩
        · exact ((hn es).1 rfl).elim
        · refine ⟨p, vs, rfl, .inr ⟨hq, fun u hu => ?_⟩⟩
          have n2 := Nx.upd (o := .tup vs.reverse) R1 hu
          exact (P.nx F.1 R1 n1) r1 _ _ (R1.upd (R1.off hu) n2) n2 ⟨u, vs.reverse, rfl, upd_same, by rw [List.length_reverse]; exact l, (s.reverse).nx R1 n2⟩
      | _ =>
        subst hy
        have e2 := e1
        unfold revA at e2
        dsimp only at e2
        first
          | (cases e2; done)
          | (obtain ⟨ds, hd, _⟩ := Option.map_eq_some_iff.mp e2
             exact done ds hd (fun _ => ⟨(fun h => nomatch h), (fun h => nomatch h)⟩) e1)) fun _ => rfl
end
end Ev
namespace Ev
open PySem PySem.W L2 PyProof.Rows
/-! ### plain tuples, and dict(x) of one -/
section
variable {X : Cx}
theorem call_xtup : CallR X (.type "tuple") (fun xs H Q => ∃ p vs, xs = [V.ref p] ∧ SqL X.K H p vs ∧ ∀ (q : Addr) (o : Obj), H q = none → o.dict = none → Q (.ref q) (L2.upd H q (.frz o (.tup vs)))) := by
  intro pins s σ H xs us Q I r z
  obtain ⟨p, vs, rfl, hs, q⟩ := z
  rw [Vals.ref1 r]
  obtain ⟨its, rv, pl, hz⟩ := I.list hs
  refine call_tuple_list pl.isList (fun h1 hk => ?_) (by rw [List.size_toArray, ← rv.length]; exact hz)
  have I1 : Inv X pins σ H { s with heap := h1 } := I.kept (t' := s.toks) hk
  exact ⟨.ref h1.objs.size, L2.upd H h1.objs.size (.frz { cls := .type "tuple", data := .seq its.toArray } (.tup vs)),
    I1.laid (t' := s.toks) (fun b o e => Heap.get?_push_of_some _ e) (Nat.le_refl _) (And.intro (Heap.get?_push_size _ rfl) (show ObjOk X.prog X.w _ _ _ (.tup vs) from ⟨hz, its, rv, IsTup.new _ _⟩)),
    rfl, q _ _ (I1.hok.fresh (Nat.le_refl _)) rfl⟩
variable [Tab]
theorem bi_xtup : CallR X (.type "tuple") (RBi X.K X.mg .xtup) := by
  refine call_xtup.evI fun xs H Q z => ?_
  obtain ⟨r, M, as, c, M', H0, R, ra, e, P⟩ := z
  obtain ⟨a, rfl, e1⟩ := un1_eq e
  obtain ⟨ds, hn, e2⟩ := Option.map_eq_some_iff.mp e1
  obtain ⟨rfl, rfl⟩ := Prod.mk.inj e2
  obtain ⟨x, rfl, q⟩ := ra.one
  obtain ⟨p, vs, rfl, s, l, hs⟩ := list_sq R q hn
  refine ⟨p, vs, rfl, hs, fun y o hy ho => ?_⟩
  have n2 := Nx.upd (o := .frz o (.tup vs)) R hy
  exact P r _ _ (R.upd (R.off hy) n2) n2 ⟨y, vs, rfl, ⟨o, upd_same, ho⟩, l, s.nx R n2⟩
/-- pairs whose keys are tuples, as the model reads them -/
theorem prs_use {pins : List (Addr × Obj)} {s : Shared} {σ : L2.St} {H : Hp} {r : List Addr} (I : L2.Inv X pins σ H s) : ∀ {ds : List D} {vs : List V} {kvs : List (D × D)}, RVs X.K r H ds vs → pairsOf true ds = some kvs →
    ∃ (bs : List Addr) (xs : List (List Key × Addr × Value)) (ks : List (List Key × V)), vs = bs.map V.ref ∧ xs.length = bs.length ∧ KT H ks xs ∧ Paired (RKV X.K r H tD) kvs ks ∧
      ∀ (j : Nat) (x : List Key × Addr × Value), xs[j]? = some x → ∃ b, bs[j]? = some b ∧ IsTup s.heap b #[.ref x.2.1, x.2.2]
  | [], _, _, h, e => by
    cases h; cases e
    exact ⟨[], [], [], rfl, rfl, .nil, .nil, fun j x e => by simp at e⟩
  | .tup [k, v] :: ds, _, kvs, ⟨u, ws, e0, hu, hs⟩, e => by
    unfold pairsOf at e
    split at e
    · rename_i hk
      obtain ⟨more, e1, e2⟩ := Option.map_eq_some_iff.mp e
      subst e2
      obtain ⟨bs, xs, ks, g1, g2, g3, g4, g5⟩ := prs_use I hs e1
      obtain ⟨b, us, rfl, hb, _, hq⟩ := hu
      obtain ⟨y, w1, rfl, hy, z, w2, rfl, hz, hn⟩ := hq
      cases hn
      rcases Ev.key_of hk with ⟨h0, _⟩ | ⟨_, key, rfl⟩
      · cases h0
      obtain ⟨c, ys, rfl, hc, _, hks⟩ := hy
      rw [RVs.keys hks] at hc
      obtain ⟨its, rv, ht, _⟩ := I.tuple (SqT.of hb)
      obtain ⟨u1, u2, ei, r1, r2⟩ := vals2 rv
      subst ei
      cases r1
      refine ⟨b :: bs, (key, c, u2) :: xs, (key, z) :: ks, by rw [e0, g1]; rfl, by rw [List.length_cons, List.length_cons, g2], .cons ⟨rfl, hc, r2⟩ g3, .cons ⟨rfl, hz⟩ g4, fun j x ex => ?_⟩
      cases j with
      | zero =>
        cases ex
        exact ⟨b, rfl, ht⟩
      | succ j => exact g5 j x ex
    · cases e
  | .non :: _, _, _, _, e => nomatch e
  | .bl _ :: _, _, _, _, e => nomatch e
  | .int _ :: _, _, _, _, e => nomatch e
  | .str _ :: _, _, _, _, e => nomatch e
  | .fz _ :: _, _, _, _, e => nomatch e
  | .ref _ :: _, _, _, _, e => nomatch e
  | .xt _ :: _, _, _, _, e => nomatch e
  | .tup [] :: _, _, _, _, e => nomatch e
  | .tup [_] :: _, _, _, _, e => nomatch e
  | .tup (_ :: _ :: _ :: _) :: _, _, _, _, e => nomatch e
omit [Tab] in
theorem kt_all {H : Hp} : ∀ {ks : List (List Key × V)} {xs : List (List Key × Addr × Value)}, KT H ks xs → ∀ {acc : List (List Key × V)} {acc2 : List (List Key × Addr × Value)}, KT H acc acc2 → KT H (ks.foldl (fun a p => putK a p.1 p.2) acc) (storedAllH acc2 xs)
  | _, _, .nil, _, _, h => h
  | _, _, .cons (a := p) (b := q) ⟨e, hb, rv⟩ t, acc, acc2, h => by
    rw [List.foldl_cons]
    show KT H _ (storedAllH (storedH acc2 q.1 q.2.1 q.2.2) _)
    rw [← e]
    exact kt_all t (h.put p.1 hb rv)
theorem dm_all {K : Frg} {r : List Addr} {H : Hp} : ∀ {kvs : List (D × D)} {ks : List (List Key × V)}, Paired (RKV K r H tD) kvs ks → ∀ {acc : List (D × D)} {acc2 : List (List Key × V)}, Paired (RKV K r H tD) acc acc2 → Paired (RKV K r H tD) (dmerge acc kvs) (ks.foldl (fun a p => putK a p.1 p.2) acc2)
  | _, _, .nil, _, _, h => h
  | _, _, .cons (a := p) (b := q) ⟨e, rv⟩ t, acc, acc2, h => by
    rw [List.foldl_cons]
    show Paired _ (dmerge (dput acc p.1 p.2) _) _
    rw [e]
    exact dm_all t (dput_rel tD_inj h q.1 rv)
omit [Tab] in
theorem putAll_len : ∀ (ks acc : List (List Key × V)), (ks.foldl (fun a p => putK a p.1 p.2) acc).length ≤ acc.length + ks.length
  | [], _ => Nat.le_refl _
  | p :: ks, acc => by
    have h1 := putAll_len ks (putK acc p.1 p.2)
    have h2 := length_putK acc p.1 p.2
    rw [List.foldl_cons, List.length_cons]
    omega
/-- what is behind dict(x), the argument's kind left open -/
theorem dictT_end {pins : List (Addr × Obj)} {s : Shared} {σ : L2.St} {H : Hp} {T : String} {a : Addr} {OK : Heap → Prop} {Q : V → Hp → Prop} {xs : List (List Key × Addr × Value)} {ks : List (List Key × V)} {fp : List Addr}
    (hc : X.calm = true) (hu : X.A.units + 70 < cLine) (I : L2.Inv X pins σ H s) (kt : KT H ks xs)
    (P : PairArg X.prog X.w T a fp [] (xs.map fun x => (Value.ref x.2.1, x.2.2)).length (PairRel (xs.map fun x => (Value.ref x.2.1, x.2.2))) OK) (ok : OK s.heap) (hz : xs.length ≤ sizeLine)
    (q : ∀ p, H p = none → Q (.ref p) (L2.upd H p (.dT (ks.foldl (fun a p => putK a p.1 p.2) [])))) : wpAny (model X.prog X.w) X.A (call (.type "dict") [.ref a]) (EP X pins σ Q) X.xe s := by
  have hin : ∀ x ∈ xs, H x.2.1 = some (.tup (x.1.map kV)) := by
    have : ∀ {ks : List (List Key × V)} {xs : List (List Key × Addr × Value)}, KT H ks xs → ∀ x ∈ xs, H x.2.1 = some (.tup (x.1.map kV)) := by
      intro ks xs kt
      induction kt with
      | nil => exact fun x h => nomatch h
      | cons h t ih =>
        intro x hx
        rcases List.mem_cons.mp hx with rfl | hx
        · rw [← h.1]; exact h.2.1
        · exact ih x hx
    exact this kt
  refine call_dict_pairsH (knd := tupleKind (mixKind X.prog X.w)) (ps := xs) P (I.ok.hd hc) (show X.A.in1.in1.units + 0 < cLine from ?_) ok ⟨by rw [List.length_map], fun i key v hr => ?_⟩ (fun h2 hk x hx => ?_) (by rw [List.length_map]; exact hz) fun h2 tk dd hk => ?_
  · have e1 : X.A.in1.in1.units = X.A.units + 2 := rfl
    omega
  · have hr : (xs.map fun x => (Value.ref x.2.1, x.2.2))[i]? = some (key, v) := hr
    rw [List.getElem?_map] at hr
    obtain ⟨x, h1, h2⟩ := Option.map_eq_some_iff.mp hr
    cases h2
    exact ⟨x.1, x.2.1, h1, rfl⟩
  · obtain ⟨_, its, rv, o, h3, h4, n, h5⟩ := (show ObjOk X.prog X.w H s.heap x.2.1 (.tup (x.1.map kV)) from I.hok _ _ (hin x hx))
    exact ⟨o, its.toArray, n, hk _ _ (Nat.ne_of_lt (Heap.lt_size h3)) (fun h => nomatch h) h3, h4, h5, by simpa using items_are rv⟩
  · have hl : (ks.foldl (fun a p => putK a p.1 p.2) []).length ≤ sizeLine := by
      have h1 := putAll_len ks []
      have h2 := Paired.length kt
      rw [List.length_nil, Nat.zero_add] at h1
      omega
    have hm : (s.heap.objs.size == sysModules) = false := beq_eq_false_iff_ne.mpr (Nat.ne_of_gt I.big)
    obtain ⟨o, es, ep, d1, d2, d3, d4, _, d5⟩ := dd
    have hf : H s.heap.objs.size = none := I.hok.fresh (Nat.le_refl _)
    refine ⟨.ref s.heap.objs.size, L2.upd H s.heap.objs.size (.dT (ks.foldl (fun a p => putK a p.1 p.2) [])), I.laid (t' := tk) (fun b o e => hk b o (fun h => nomatch h) e) (Nat.le_refl _) ?_, rfl, q _ hf⟩
    refine ⟨hl, hm, _, (kt_all kt .nil).keeps fun b ys e => ?_, o, es, ep, d1, d2, d3, d4, d5⟩
    rw [upd_ne (ne_of_none e hf)]
    exact e
theorem refs_len {ps : List Addr} {us : List Value} (r : Vals (ps.map V.ref) us) : us.length = ps.length := by
  rw [refs_at r, List.length_map]
theorem prs_items {h : Heap} {bs : List Addr} {xs : List (List Key × Addr × Value)} {its : List Value} (rv : Vals (bs.map V.ref) its) (hl : xs.length = bs.length)
    (g : ∀ (j : Nat) (x : List Key × Addr × Value), xs[j]? = some x → ∃ b, bs[j]? = some b ∧ IsTup h b #[.ref x.2.1, x.2.2]) :
    PairItems h its.toArray (fun j => bs.getD j 0) (xs.map fun x => (Value.ref x.2.1, x.2.2)) := by
  refine ⟨by rw [List.size_toArray, refs_len rv, List.length_map, hl], fun j k v hj => ?_⟩
  rw [List.getElem?_map] at hj
  obtain ⟨x, h1, h2⟩ := Option.map_eq_some_iff.mp hj
  cases h2
  obtain ⟨b, h3, h4⟩ := g j x h1
  have e : bs.getD j 0 = b := by rw [List.getD_eq_getElem?_getD, h3]; rfl
  refine ⟨?_, .inl ?_⟩
  · show its.toArray[j]? = some (Value.ref (bs.getD j 0))
    rw [e, refs_at rv]
    simp [h3]
  · show IsTup h (bs.getD j 0) _
    rw [e]
    exact h4
theorem bi_dictT (hc : X.calm = true) (hu : X.A.units + 70 < cLine) : CallR X (.type "dict") (RBi X.K X.mg (.dict true)) := by
  intro pins s σ H xs us Q I rr z
  obtain ⟨r, M, as, c, M', H0, R, ra, e, P⟩ := z
  obtain ⟨a, rfl, e1⟩ := un1_eq e
  obtain ⟨x, rfl, q⟩ := ra.one
  have done : ∀ {ds : List D} {vs : List V} {kvs : List (D × D)} {ks : List (List Key × V)}, ds.length ≤ sizeLine → Paired (RKV X.K r H tD) kvs ks → ks.length ≤ sizeLine → c = .v (.ref M.length) → M' = M ++ [.dic true (dmerge [] kvs)] →
      ∀ y, H y = none → Q (.ref y) (L2.upd H y (.dT (ks.foldl (fun a p => putK a p.1 p.2) []))) := fun {ds vs kvs ks} hl g4 hz hc1 hm1 y hy => by
    subst hc1; subst hm1
    have n2 := Nx.add (o := .dT (ks.foldl (fun a p => putK a p.1 p.2) [])) R hy
    have hp := dm_all g4 (acc := []) (acc2 := []) .nil
    have hlen : (dmerge [] kvs).length ≤ sizeLine := by
      rw [Paired.length hp]
      have := putAll_len ks []
      rw [List.length_nil, Nat.zero_add] at this
      omega
    exact P _ _ _ (R.add hy n2 ⟨_, upd_same, hlen, Paired.mapP hp fun _ _ z => RKV.wk (n2.wk R) z⟩) n2 ⟨y, rfl, by rw [← R.len, List.getElem?_append_right (Nat.le_refl _), Nat.sub_self]; rfl⟩
  unfold biDictX at e1
  split at e1
  · rename_i ds
    split at e1
    · rename_i kvs hk
      obtain ⟨hc1, hm1⟩ := Prod.mk.inj (Option.some.inj e1)
      obtain ⟨p, vs, rfl, ⟨o, hp, ho⟩, hl, sv⟩ := q
      rw [Vals.ref1 rr]
      obtain ⟨bs, xs, ks, rfl, g2, g3, g4, g5⟩ := prs_use I sv hk
      obtain ⟨he, hz, its, rv, o', h1, h2, n, h3⟩ := (show s.heap.get? p = some o ∧ ObjOk X.prog X.w H s.heap p (.tup (bs.map V.ref)) from I.hok _ _ hp)
      rw [he] at h1
      cases h1
      have hz' : xs.length ≤ sizeLine := by rw [List.length_map] at hz; omega
      exact dictT_end hc hu I g3 (PairArg.tuple p its.toArray (fun j => bs.getD j 0) _) ⟨⟨o, n, he, h2, ho, h3⟩, prs_items rv g2 g5⟩ hz' (done hl g4 (by have := Paired.length g3; omega) hc1.symm hm1.symm (vs := []))
    · cases e1
  · rename_i ds
    split at e1
    · rename_i kvs hk
      obtain ⟨hc1, hm1⟩ := Prod.mk.inj (Option.some.inj e1)
      obtain ⟨p, vs, rfl, sv, hl, hs⟩ := list_sq R q (ds := ds) rfl
      rw [Vals.ref1 rr]
      obtain ⟨bs, xs, ks, rfl, g2, g3, g4, g5⟩ := prs_use I sv hk
      obtain ⟨its, rv, ⟨o, n, he, h2, ho, h3⟩, hz⟩ := I.list hs
      have hz' : xs.length ≤ sizeLine := by rw [List.length_map] at hz; omega
      exact dictT_end hc hu I g3 (PairArg.list p its.toArray (fun j => bs.getD j 0) _) ⟨⟨o, n, he, h2, ho, h3⟩, prs_items rv g2 g5⟩ hz' (done hl g4 (by have := Paired.length g3; omega) hc1.symm hm1.symm (vs := []))
    · cases e1
  · cases e1
/-- pairs whose keys are ints or texts -/
theorem prsK_use {H : Hp} {r : List Addr} : ∀ {ds : List D} {vs : List V} {kvs : List (D × D)}, RVs X.K r H ds vs → pairsOf false ds = some kvs →
    ∃ (ps : List Addr) (ks : List (Key × V)), vs = ps.map V.ref ∧ Paired (fun p kv => SqT X.K H p [kV kv.1, kv.2]) ps ks ∧ Paired (RKV X.K r H kD) kvs ks
  | [], _, _, h, e => by
    cases h; cases e
    exact ⟨[], [], rfl, .nil, .nil⟩
  | .tup [k, v] :: ds, _, kvs, ⟨u, ws, e0, hu, hs⟩, e => by
    unfold pairsOf at e
    split at e
    · rename_i hk
      obtain ⟨more, e1, e2⟩ := Option.map_eq_some_iff.mp e
      subst e2
      obtain ⟨ps, ks, g1, g2, g3⟩ := prsK_use hs e1
      obtain ⟨b, us, rfl, hb, _, hq⟩ := hu
      obtain ⟨y, w1, rfl, hy, z, w2, rfl, hz, hn⟩ := hq
      cases hn
      rcases Ev.key_of hk with ⟨_, key, rfl⟩ | ⟨h0, _⟩
      · have ey := RV.key hy
        subst ey
        exact ⟨b :: ps, (key, z) :: ks, by rw [e0, g1]; rfl, .cons (SqT.of hb) g2, .cons ⟨rfl, hz⟩ g3⟩
      · cases h0
    · cases e
  | .non :: _, _, _, _, e => nomatch e
  | .bl _ :: _, _, _, _, e => nomatch e
  | .int _ :: _, _, _, _, e => nomatch e
  | .str _ :: _, _, _, _, e => nomatch e
  | .fz _ :: _, _, _, _, e => nomatch e
  | .ref _ :: _, _, _, _, e => nomatch e
  | .xt _ :: _, _, _, _, e => nomatch e
  | .tup [] :: _, _, _, _, e => nomatch e
  | .tup [_] :: _, _, _, _, e => nomatch e
  | .tup (_ :: _ :: _ :: _) :: _, _, _, _, e => nomatch e
theorem dmK_all {K : Frg} {r : List Addr} {H : Hp} : ∀ {kvs : List (D × D)} {ks : List (Key × V)}, Paired (RKV K r H kD) kvs ks → ∀ {acc : List (D × D)} {acc2 : List (Key × V)}, Paired (RKV K r H kD) acc acc2 → Paired (RKV K r H kD) (dmerge acc kvs) (mergeK acc2 ks)
  | _, _, .nil, _, _, h => h
  | _, _, .cons (a := p) (b := q) ⟨e, rv⟩ t, acc, acc2, h => by
    show Paired _ (dmerge (dput acc p.1 p.2) _) (mergeK (putK acc2 q.1 q.2) _)
    rw [e]
    exact dmK_all t (dput_rel kD_inj h q.1 rv)
theorem bi_dictK (hc : X.calm = true) : CallR X (.type "dict") (RBi X.K X.mg .dictK) := by
  refine (call_dictP hc).evI fun xs H Q z => ?_
  obtain ⟨r, M, as, c, M', H0, R, ra, e, P⟩ := z
  obtain ⟨a, rfl, e1⟩ := un1_eq e
  obtain ⟨x, rfl, q⟩ := ra.one
  unfold biDictK at e1
  split at e1
  · rename_i ds
    split at e1
    · rename_i kvs hk
      obtain ⟨rfl, rfl⟩ := Prod.mk.inj (Option.some.inj e1)
      obtain ⟨p, vs, rfl, sv, hl, hs⟩ := list_sq R q (ds := ds) rfl
      obtain ⟨ps, ks, rfl, g2, g3⟩ := prsK_use sv hk
      refine ⟨p, ps, ks, rfl, hs, g2, fun y hy => ?_⟩
      have n2 := Nx.add (o := .dK (mergeK [] ks)) R hy
      have hp := dmK_all g3 (acc := []) (acc2 := []) .nil
      have hlen : (dmerge [] kvs).length ≤ sizeLine := by
        rw [Paired.length hp]
        have h1 := length_mergeK ks []
        have h2 := Paired.length g2
        have h3 := RVs.length sv
        rw [List.length_map] at h3
        rw [List.length_nil, Nat.zero_add] at h1
        omega
      exact P _ _ _ (R.add hy n2 ⟨_, upd_same, hlen, Paired.mapP hp fun _ _ z => RKV.wk (n2.wk R) z⟩) n2 ⟨y, rfl, by rw [← R.len, List.getElem?_append_right (Nat.le_refl _), Nat.sub_self]; rfl⟩
    · cases e1
  · cases e1
omit [Tab] in
/-- a display whose keys are objects -/
theorem disp_H {prog : Program} {w : World} {K : Type} [DecidableEq K] {knd : HeapKind prog w K} {A : Around} {E : Value → Shared → Prop} {s : Shared} {env : PySem.Env} {keys : List (Option Expr)} {values : List Expr} {pos : Pos} {Q : Value → Shared → Prop}
    (hu : knd.room A) (hall : keys.all (·.isSome) = true) (hl : keys.length = values.length) (h0 : keys ≠ []) (h15 : keys.length ≤ 15)
    (h : wpAny (model prog w) A (evalPairs (pairTrees keys values env pos)) (fun vs s1 => ∃ ps, CarriesH knd s1.heap vs ps ∧ s1.heap.DictOfH knd s.heap.objs.size [] ∧
      ∀ h2 tk, h2.DictOfH knd s.heap.objs.size (storedAllH [] ps) → Heap.SameBut s.heap.objs.size s1.heap h2 → Q (.ref s.heap.objs.size) { s1 with heap := h2, toks := tk }) E { s with heap := s.heap.push { cls := .type "dict", data := .dict #[] } }) :
    wpAny (model prog w) A (eval (.Dict keys values pos) env) Q E s := by
  have hn := pairTrees_length keys values env pos hall hl
  have hne : pairTrees keys values env pos ≠ [] := fun he => h0 (List.length_eq_zero_iff.mp (by rw [he] at hn; exact hn.symm))
  have hle : (pairTrees keys values env pos).length ≤ 15 := by rw [hn]; exact h15
  rw [arm_eval_Dict, zip_pairTrees keys values env pos hall hl, dictDisplay_pairs _ hne (by omega)]
  refine wpAny_bind (wpAny_standAt (wpAny_bind (wpAny_subDictH hu hle (wpAny_mono h (fun vs s1 z => ?_) fun _ _ e => e))))
  obtain ⟨ps, a, b, c⟩ := z
  exact ⟨ps, a, b, fun h2 tk x y => wpAny_pure (c h2 tk x y)⟩
abbrev KAV := List Key × Addr × V
def tDispT (trs : List (TE × TE)) : TE := fun σ H Q => ∀ p, H p = none → tPairs trs σ (L2.upd H p (.dT [])) fun ps H2 => H2 p = some (.dT []) ∧ ∃ kvs : List KAV, ps = kvs.map (fun kv => (V.ref kv.2.1, kv.2.2)) ∧ (∀ kv ∈ kvs, H2 kv.2.1 = some (.tup (kv.1.map kV))) ∧ kvs.length ≤ 15 ∧
  Q (.ref p) (L2.upd H2 p (.dT ((kvs.map fun kv => (kv.1, kv.2.2)).foldl (fun a p => putK a p.1 p.2) [])))
omit [Tab] in
theorem carry_T {P : Program} {w : World} {H : Hp} {h : Heap} (ok : HOk P w H h) : ∀ {kvs : List KAV} {ws : List (Value × Value)}, VV (kvs.map fun kv => (V.ref kv.2.1, kv.2.2)) ws → (∀ kv ∈ kvs, H kv.2.1 = some (.tup (kv.1.map kV))) →
    ∃ xs, CarriesH (tupleKind (mixKind P w)) h ws xs ∧ KT H (kvs.map fun kv => (kv.1, kv.2.2)) xs
  | [], _, r, _ => by rw [List.map_nil] at r; cases r; exact ⟨[], True.intro, .nil⟩
  | p :: kvs, _, r, hk => by
    rw [List.map_cons] at r
    cases r with
    | @cons a b as bs h1 t =>
      obtain ⟨xs, c, q⟩ := carry_T ok t fun kv hkv => hk kv (List.mem_cons_of_mem _ hkv)
      obtain ⟨b1, b2⟩ := b
      have hb := hk p List.mem_cons_self
      have e1 : b1 = .ref p.2.1 := h1.1
      subst e1
      exact ⟨(p.1, p.2.1, b2) :: xs, ⟨rfl, rfl, L2.key_of ok hb, c⟩, .cons ⟨rfl, hb, h1.2⟩ q⟩
omit [Tab] in
theorem pe_dispT {pos : Pos} {keys : List (Option Expr)} {values : List Expr} {trs : List (TE × TE)} (hu : X.A.units + 1 < cLine) (h : PPs X pos keys values trs) (hall : keys.all (·.isSome) = true) (hl : keys.length = values.length) (h0 : keys ≠ []) (h15 : keys.length ≤ 15) : PE X (.Dict keys values pos) (tDispT trs) := by
  refine ⟨fun pins s σ H Q I q => ?_⟩
  have hn := I.hok.fresh (Nat.le_refl s.heap.objs.size)
  have hm : (s.heap.objs.size == sysModules) = false := beq_eq_false_iff_ne.mpr (Nat.ne_of_gt I.big)
  have I1 := I.laid (a := s.heap.objs.size) (o := .dT []) (h' := s.heap.push { cls := .type "dict", data := .dict #[] }) (t' := s.toks) (fun _ _ q => Heap.get?_push_of_some _ q) (Nat.le_refl _) (show ObjOk X.prog X.w _ _ _ (.dT []) from by
    obtain ⟨o, es, ep, a1, a2, a3, a4, _, a5⟩ := Heap.DictOfH.new (knd := tupleKind (mixKind X.prog X.w)) s.heap
    exact ⟨Nat.zero_le _, hm, [], .nil, o, es, ep, a1, a2, a3, a4, a5⟩)
  refine disp_H (knd := tupleKind (mixKind X.prog X.w)) (show X.A.units + 0 < cLine by omega) hall hl h0 h15 (thn (h.run pins _ σ _ _ I1 (q _ hn)) fun ws s2 z => ?_)
  obtain ⟨ps, H2, I2, rel, e, kvs, ep, hk, lk, q2⟩ := z
  subst ep
  obtain ⟨xs, c, kt⟩ := carry_T I2.hok rel hk
  obtain ⟨z, hd, vs0, r0, dd⟩ := dt_of I2.hok e
  cases r0
  refine ⟨xs, c, dd, fun h2 tk dd2 hs => ⟨.ref s.heap.objs.size, _, ?_, rfl, q2⟩⟩
  have hz : ((kvs.map fun kv => (kv.1, kv.2.2)).foldl (fun a p => putK a p.1 p.2) []).length ≤ sizeLine := by
    have h1 := putAll_len (kvs.map fun kv => (kv.1, kv.2.2)) []
    rw [List.length_nil, List.length_map] at h1
    rw [sizeLine_eq]
    omega
  obtain ⟨o, es, ep, d1, d2, d3, d4, _, d5⟩ := dd2
  refine d_write I2 (by rw [e]; exact True.intro) hs ⟨o, d1⟩ ⟨hz, hd, _, (kt_all kt .nil).keeps fun b ys eb => ?_, o, es, ep, d1, d2, d3, d4, d5⟩
  rw [upd_ne (ne_of eb e (fun z => nomatch z))]
  exact eb
theorem RPs.keysT {K : Frg} {r : List Addr} {H : Hp} : ∀ {kvs : List (D × D)} {ps : List (V × V)}, RPs K r H kvs ps → kvs.all (fun p => isKey true p.1) = true →
    ∃ ks : List KAV, ps = ks.map (fun kv => (V.ref kv.2.1, kv.2.2)) ∧ (∀ kv ∈ ks, H kv.2.1 = some (.tup (kv.1.map kV))) ∧ Paired (RKV K r H tD) kvs (ks.map fun kv => (kv.1, kv.2.2))
  | [], _, h, _ => by cases h; exact ⟨[], rfl, (fun _ h => nomatch h), .nil⟩
  | p :: kvs, _, ⟨x, y, qs, e, h1, h2, h3⟩, z => by
    rw [List.all_cons, Bool.and_eq_true] at z
    obtain ⟨ks, e2, h4, h5⟩ := RPs.keysT h3 z.2
    rcases Ev.key_of z.1 with ⟨h0, _⟩ | ⟨_, key, hk⟩
    · cases h0
    rw [hk] at h1
    obtain ⟨c, ys, rfl, hc, _, hks⟩ := h1
    rw [RVs.keys hks] at hc
    refine ⟨(key, c, y) :: ks, by rw [e, e2]; rfl, fun kv hkv => ?_, .cons ⟨hk, h2⟩ h5⟩
    rcases List.mem_cons.mp hkv with rfl | hkv
    · exact hc
    · exact h4 kv hkv
theorem ce_dicT {cf : Cf} {pos : Pos} {keys : List (Option Expr)} {values : List Expr} {cks : List (E × E)} (hu : X.A.units + 1 < cLine) (h : PPs X pos keys values (cks.map fun p => (TrD cf X.K X.mg p.1, TrD cf X.K X.mg p.2))) (hall : keys.all (·.isSome) = true) (hl : keys.length = values.length) (h0 : keys ≠ []) (h15 : keys.length ≤ 15) :
    CE X cf (.Dict keys values pos) (.dic true (interE cks)) :=
  CE.of ((pe_dispT hu h hall hl h0 h15).evI fun σ H Q z => by
    obtain ⟨r, v, M, d, M', F, e, P⟩ := z
    obtain ⟨ds, N1, g1, e1⟩ := bnd_eq e
    split at e1
    case h_2 => cases e1
    rename_i kvs hp
    split at e1
    case isFalse => cases e1
    rename_i hc
    cases e1
    intro q hq
    have n1 := Nx.upd (o := .dT []) F.1 hq
    refine pairs_run cks (F.nx (F.1.upd (F.1.off hq) n1) n1) g1 fun r2 H2 ps kvs' hp' R2 n2 q2 => ?_
    rw [hp] at hp'; cases hp'
    have hq2 : H2 q = some (.dT []) := n2.fr _ _ upd_same (F.1.off hq)
    obtain ⟨ks, e2, hks, h4⟩ := q2.keysT hc.2
    refine ⟨hq2, ks, e2, hks, by have := Paired.length h4; rw [List.length_map] at this; omega, ?_⟩
    have hqr : q ∉ r2 := fun w => by have := n2.new q w (F.1.off hq); rw [upd_same] at this; cases this
    have n12 := n1.trans F.1 n2
    have w : Wk r2 H2 (r2 ++ [q]) (L2.upd H2 q (.dT ((ks.map fun kv => (kv.1, kv.2.2)).foldl (fun a p => putK a p.1 p.2) []))) := ⟨⟨[q], rfl⟩, (Wk.turn (r := r2) hq2 True.intro).im⟩
    have hm := dm_all h4 (acc := []) (acc2 := []) .nil
    have hlen : (dmerge [] kvs).length ≤ sizeLine := Nat.le_trans (dmerge_length kvs []) (by rw [List.length_nil, Nat.zero_add, sizeLine_eq]; omega)
    refine P (r2 ++ [q]) _ _ (R2.join hqr w (fun a ha => upd_ne fun e => hqr (e ▸ ha)) ⟨_, upd_same, hlen, Paired.mapP hm fun _ _ z => RKV.wk w z⟩) ⟨?_, fun b u hb hbr => ?_, fun b hb hbr => ?_⟩ ⟨q, rfl, ?_⟩
    · obtain ⟨t, ht⟩ := n12.pre
      exact ⟨t ++ [q], by rw [ht, List.append_assoc]⟩
    · rw [upd_ne (ne_of_none hb hq)]; exact n12.fr b u hb hbr
    · rcases List.mem_append.mp hb with hb | hb
      · exact n12.new b hb hbr
      · rw [List.mem_singleton] at hb; rw [hb]; exact hq
    · rw [← R2.len, List.getElem?_append_right (Nat.le_refl _), Nat.sub_self]; rfl) fun _ => rfl
end
end Ev
namespace Ev
open PySem PySem.W L2 PyProof.Rows
/-! ### from the model's text to the evaluator's -/
structure Kx where
  N : List Str
  sc : Scope
  fn : Str → Bool
  dT : List Nat
  funs : List (Str × Nat)
  cls : List (Str × Nat)
  nms : List Str
  free : List Str
def chk (b : Bool) : Option Unit := if b then some () else none
theorem chk_eq {b : Bool} {u : Unit} (h : chk b = some u) : b = true := by
  cases b with
  | true => rfl
  | false => cases h
def nmIx : List Str → Str → Nat → Option Nat
  | [], _, _ => none
  | y :: ys, x, i => if y = x then some i else nmIx ys x (i + 1)
theorem nmIx_get : ∀ {ys : List Str} {x : Str} {i j : Nat}, nmIx ys x i = some j → i ≤ j ∧ ys[j - i]? = some x
  | [], _, _, _, h => nomatch h
  | y :: ys, x, i, j, h => by
    unfold nmIx at h
    split at h
    · rename_i e
      cases h
      rw [Nat.sub_self, e]
      exact ⟨Nat.le_refl _, rfl⟩
    · obtain ⟨h1, h2⟩ := nmIx_get h
      refine ⟨by omega, ?_⟩
      have : j - i = (j - (i + 1)) + 1 := by omega
      rw [this]
      exact h2
def ixOf (ys : List Str) (x : Str) : Option Nat := nmIx ys x 0
theorem ixOf_get {ys : List Str} {x : Str} {j : Nat} (h : ixOf ys x = some j) : ys[j]? = some x := (nmIx_get h).2
def isVis (sc : Scope) (x : Str) : Bool := match sc.names.lookup x with
  | some .local => true
  | some .cell => true
  | some .free => true
  | _ => false
def isLoc (sc : Scope) (x : Str) : Bool := match sc.names.lookup x with
  | some .local => true
  | some .cell => true
  | _ => false
def isLocal (sc : Scope) (x : Str) : Bool := match sc.names.lookup x with
  | some .local => true
  | _ => false
def isGl (sc : Scope) (x : Str) : Bool := match sc.names.lookup x with
  | some .globalImplicit => true
  | _ => false
theorem isVis_ok {sc : Scope} {x : Str} (h : isVis sc x = true) : Vis sc x := by
  unfold isVis at h
  split at h
  · exact .inl (by assumption)
  · exact .inr (.inl (by assumption))
  · exact .inr (.inr (by assumption))
  · cases h
theorem isLoc_ok {sc : Scope} {x : Str} (h : isLoc sc x = true) : Loc sc x := by
  unfold isLoc at h
  split at h
  · exact .inl (by assumption)
  · exact .inr (by assumption)
  · cases h
theorem isLocal_ok {sc : Scope} {x : Str} (h : isLocal sc x = true) : sc.names.lookup x = some .local := by
  unfold isLocal at h
  split at h
  · assumption
  · cases h
theorem isGl_ok {sc : Scope} {x : Str} (h : isGl sc x = true) : sc.names.lookup x = some .globalImplicit := by
  unfold isGl at h
  split at h
  · assumption
  · cases h
def cConst : Const → Option D
  | .none => some .non
  | .bool b => some (.bl b)
  | .int i => some (.int i)
  | .str x => some (.str x)
  | _ => none
def cOp : Operator → Option Op2
  | .Add => some .add
  | .Sub => some .sub
  | .Mult => some .mul
  | .FloorDiv => some .fdiv
  | .Mod => some .mod
  | .Pow => some .pow
  | _ => none
def cCmp : CmpOp → Op2
  | .Eq => .eq
  | .NotEq => .ne
  | .Lt => .lt
  | .LtE => .le
  | .Gt => .gt
  | .GtE => .ge
  | .Is => .is
  | .IsNot => .isnot
  | .In => .isin
  | .NotIn => .notin
def cBI (x : Str) (n : Nat) : Option BI :=
  if x = "len" then some .len else if x = "tuple" then some .tuple else if x = "list" then some .list else if x = "sorted" then some .sorted else if x = "sum" then some .sum
  else if x = "all" then some .all else if x = "any" then some .any else if x = "abs" then some .abs else if x = "int" then some .int
  else if x = "max" then (if n = 1 ∨ n = 2 then some .max else none) else if x = "min" then (if n = 1 ∨ n = 2 then some .min else none) else none
def posK (p : Pos) : Nat := p.line * 1000 + p.col
/-- a built-in by its name; m where a plain tuple, a dict with tuple keys is made -/
def cBIm (x : Str) (n : Nat) (m : Bool) : Option BI :=
  if x = "dict" then (if n = 1 then some (if m = true then .dict true else .dictK) else none) else if m = true then (if x = "tuple" then some .xtup else none) else cBI x n
def cTy (x : Str) : Option Ty :=
  if x = "int" then some .int else if x = "bool" then some .bool else if x = "str" then some .str else if x = "tuple" then some .tuple else if x = "list" then some .list else none
def cBM (x : Str) (n : Nat) : Option BM :=
  if x = "append" then (if n = 1 then some .append else none) else if x = "get" then (if n = 1 ∨ n = 2 then some .get else none) else if x = "pop" then (if n = 0 then some .pop else if n = 1 then some .popAt else none)
  else if x = "extend" then (if n = 1 then some .extend else none) else if x = "remove" then (if n = 1 then some .remove else none) else if x = "index" then (if n = 1 then some .index else none) else if x = "count" then (if n = 1 then some .count else none) else none
mutual
def cTg (k : Kx) : Expr → Option Tg
  | .Name x _ => do
    let i ← ixOf k.N x
    let _ ← chk (isLoc k.sc x)
    let _ ← chk (k.fn x || isLocal k.sc x)
    some (.nm i)
  | .Tuple es _ _ => do
    let _ ← chk (es.all noStar)
    let ts ← cTgs k es
    some (.tp ts)
  | _ => none
def cTgs (k : Kx) : List Expr → Option (List Tg)
  | [] => some []
  | e :: es => do
    let t ← cTg k e
    let ts ← cTgs k es
    some (t :: ts)
end
def ownOf (N : List Str) : List (Str × NameKind) → List (Str × Nat)
  | [] => []
  | (x, .local) :: r => (match ixOf N x with
    | some i => (x, i) :: ownOf N r
    | none => ownOf N r)
  | (x, .cell) :: r => (match ixOf N x with
    | some i => (x, i) :: ownOf N r
    | none => ownOf N r)
  | _ :: r => ownOf N r
def Kx.blk (k : Kx) (scope : Scope) : Kx := { k with sc := relS scope k.sc, fn := fun x => scope.names.lookup x == some .cell }
def isSet : Expr → Bool
  | .Set .. => true
  | _ => false
/-- what a set is made of, for len and sorted -/
def setArg (x : Str) : List Expr → Option (Bool × Expr)
  | [.Call (.Name y _) [a] [] _] => if y = "set" then (if x = "len" then some (false, a) else if x = "sorted" then some (true, a) else none) else none
  | _ => none
theorem setArg_ok {x : Str} {es : List Expr} {b : Bool} {a : Expr} (h : setArg x es = some (b, a)) : ∃ p q, es = [.Call (.Name "set" p) [a] [] q] ∧ ((x = "len" ∧ b = false) ∨ (x = "sorted" ∧ b = true)) := by
  unfold setArg at h
  split at h
  · split at h
    · rename_i e
      subst e
      split at h
      · cases h; rename_i e; exact ⟨_, _, rfl, .inl ⟨e, rfl⟩⟩
      · split at h
        · cases h; rename_i e; exact ⟨_, _, rfl, .inr ⟨e, rfl⟩⟩
        · cases h
    · cases h
  · cases h
/-- what a list of a range runs over -/
def rngArg (x : Str) : List Expr → Option (Option Expr × Expr)
  | [.Call (.Name y _) es [] _] => if y = "range" ∧ x = "list" then (match es with
    | [b] => some (none, b)
    | [a, b] => some (some a, b)
    | _ => none) else none
  | _ => none
theorem rngArg_ok {x : Str} {es : List Expr} {o : Option Expr} {b : Expr} (h : rngArg x es = some (o, b)) : x = "list" ∧ ∃ p q, es = [.Call (.Name "range" p) (o.toList ++ [b]) [] q] := by
  unfold rngArg at h
  split at h
  · split at h
    · rename_i e
      obtain ⟨e1, e2⟩ := e
      subst e1
      refine ⟨e2, ?_⟩
      split at h
      · cases h; exact ⟨_, _, rfl⟩
      · cases h; exact ⟨_, _, rfl⟩
      · cases h
    · cases h
  · cases h
mutual
def cE : Nat → Kx → Expr → Option E
  | 0, _, _ => none
  | n + 1, k, e => match e with
    | .Name x _ => do
      let i ← ixOf k.N x
      let _ ← chk (isVis k.sc x && !(x == ("__debug__" : Str)) && !(x == ("__classdict__" : Str)))
      some (.var i)
    | .Constant c _ _ => do
      let d ← cConst c
      some (.cst d)
    | .BinOp a op b _ => do
      let o ← cOp op
      let ca ← cE n k a
      let cb ← cE n k b
      some (.op o ca cb)
    | .UnaryOp .Not a _ => do
      let ca ← cE n k a
      some (.not ca)
    | .UnaryOp .USub a _ => do
      let ca ← cE n k a
      some (.neg ca)
    | .BoolOp op es _ => cBo n k op es
    | .Compare a [op] [b] _ => do
      let ca ← cE n k a
      let cb ← cE n k b
      let _ ← chk (!behindInMarks op b)
      some (.op (cCmp op) ca cb)
    | .Compare a [op, op'] [b, c] _ => do
      let ca ← cE n k a
      let cb ← cE n k b
      let cc ← cE n k c
      let _ ← chk (!lastMarks [op, op'] [b, c])
      some (.chain (cCmp op) (cCmp op') ca cb cc)
    | .IfExp c a b _ => do
      let cc ← cE n k c
      let ca ← cE n k a
      let cb ← cE n k b
      some (.ite cc ca cb)
    | .Tuple es _ _ => do
      let cs ← cEs n k es
      some (.tup cs)
    | .List es _ => do
      let cs ← cEs n k es
      some (.lst cs)
    | .Dict [] [] p => some (.dic (decide (posK p ∈ k.dT)) .nil)
    | .Dict (x :: ks) vs p => do
      let _ ← chk ((x :: ks).all (·.isSome) && (x :: ks).length == vs.length && decide ((x :: ks).length ≤ 15))
      let cks ← cPs n k (x :: ks) vs
      some (.dic (decide (posK p ∈ k.dT)) (interE cks))
    | .Subscript a (.Slice lo hi none _) _ => do
      let ca ← cE n k a
      let cl ← cO n k lo
      let ch ← cO n k hi
      some (.sl ca cl ch)
    | .Subscript a (.Slice none none (some (.UnaryOp .USub (.Constant (.int 1) _ _) _)) _) _ => do
      let ca ← cE n k a
      some (.rev ca)
    | .Subscript a b _ => do
      let ca ← cE n k a
      let cb ← cE n k b
      let _ ← chk (noSlice b)
      some (.ix ca cb)
    | .Attribute a y _ => do
      let ca ← cE n k a
      let f ← ixOf k.nms y
      let _ ← chk (okBase a)
      some (.fld ca f)
    | .ListComp elt [⟨tg, it, ifs, 0⟩] scope _ => do
      let (ce, t, cit, cc) ← cLc n k elt tg it ifs scope
      some (.lc ce t cit cc ((ownOf k.N scope.names).map (·.2)))
    | .Call (.Name x _) es [] p => do
      let _ ← chk (isGl k.sc x && es.all noStar && !(x == ("__debug__" : Str)) && decide (x ≠ "__name__"))
      match k.funs.lookup x with
      | some i => do
        let cs ← cEs n k es
        some (.call i cs)
      | none => match k.cls.lookup x with
        | some i => do
          let cs ← cEs n k es
          some (.mk i cs)
        | none => do
          let _ ← chk (decide (x ∈ k.free))
          if x = "isinstance" then match es with
            | [a, .Name tn _] => do
              let ca ← cE n k a
              let t ← cTy tn
              let _ ← chk (isGl k.sc tn && decide (tn ∈ k.free))
              some (.isi ca t)
            | _ => none
          else match setArg x es with
            | some (b, a) => do
              let _ ← chk (isGl k.sc "set" && decide (("set" : Str) ∈ k.free) && noStar a)
              let ca ← cE n k a
              some (.bi (.set b) (.cons ca .nil))
            | none => match rngArg x es with
              | some (none, b) => do
                let _ ← chk (isGl k.sc "range" && decide (("range" : Str) ∈ k.free) && noStar b)
                let cb ← cE n k b
                some (.bi (.dict false) (.cons (.cst (.int 0)) (.cons cb .nil)))
              | some (some a, b) => do
                let _ ← chk (isGl k.sc "range" && decide (("range" : Str) ∈ k.free) && (noStar a && noStar b))
                let ca ← cE n k a
                let cb ← cE n k b
                some (.bi (.dict false) (.cons ca (.cons cb .nil)))
              | none => do
                let f ← cBIm x es.length (decide (posK p ∈ k.dT))
                let _ ← chk (!es.isEmpty)
                let cs ← cAs n k es
                some (.bi f cs)
    | .Call (.Attribute o y apos) es [] pos => do
      let co ← cE n k o
      let _ ← chk (okBase o && es.all noStar && decide (es.length < 30) && (apos.endLine == pos.line))
      match (match ixOf k.nms y with
        | some _ => none
        | none => cBM y es.length) with
      | some b => do
        let cs ← cAs n k es
        some (.meth co none (some b) cs)
      | none => do
        let m ← ixOf k.nms y
        let cs ← cEs n k es
        some (.meth co (some m) none cs)
    | _ => none
def cBo : Nat → Kx → BoolOp → List Expr → Option E
  | 0, _, _, _ => none
  | n + 1, k, op, es => match es with
    | [] => none
    | [a] => cE n k a
    | a :: b :: r => do
      let ca ← cE n k a
      let cb ← cBo n k op (b :: r)
      some (match op with
        | .And => .and ca cb
        | .Or => .or ca cb)
def cO : Nat → Kx → Option Expr → Option E
  | 0, _, _ => none
  | n + 1, k, o => match o with
    | none => some (.cst .non)
    | some a => do
      let ca ← cE n k a
      some (.op .sub ca (.cst (.int 0)))
def cEs : Nat → Kx → List Expr → Option Es
  | 0, _, _ => none
  | n + 1, k, es => match es with
    | [] => some .nil
    | e :: es => do
      let _ ← chk (noStar e)
      let c ← cE n k e
      let cs ← cEs n k es
      some (.cons c cs)
def cAs : Nat → Kx → List Expr → Option Es
  | 0, _, _ => none
  | n + 1, k, es => match es with
    | [] => some .nil
    | e :: es => do
      let _ ← chk (noStar e)
      let c ← cE n k e
      let cs ← cAs n k es
      some (.cons c cs)
def cPs : Nat → Kx → List (Option Expr) → List Expr → Option (List (E × E))
  | 0, _, _, _ => none
  | n + 1, k, ks, vs => match ks, vs with
    | [], [] => some []
    | some x :: ks, y :: vs => do
      let cx ← cE n k x
      let cy ← cE n k y
      let r ← cPs n k ks vs
      some ((cx, cy) :: r)
    | _, _ => none
def cIt : Nat → Kx → Expr → Option Ev.It
  | 0, _, _ => none
  | n + 1, k, e => match e with
    | .Call (.Name x p) es [] pos =>
      if x = ("range" : Str) ∧ isGl k.sc ("range" : Str) = true ∧ ("range" : Str) ∈ k.free then match es with
        | [b] => do
          let _ ← chk (noStar b)
          let cb ← cE n k b
          some (.rng (.cst (.int 0)) cb)
        | [a, b] => do
          let _ ← chk (noStar a && noStar b)
          let ca ← cE n k a
          let cb ← cE n k b
          some (.rng ca cb)
        | _ => none
      else do
        let c ← cE n k (.Call (.Name x p) es [] pos)
        some (.ex c)
    | e => do
      let _ ← chk (!isSet e)
      let c ← cE n k e
      some (.ex c)
def cLc : Nat → Kx → Expr → Expr → Expr → List Expr → Scope → Option (E × Tg × Ev.It × E)
  | 0, _, _, _, _, _, _ => none
  | n + 1, k, elt, tg, it, ifs, scope => do
    let cit ← cIt n k it
    let own := ownOf k.N scope.names
    let _ ← chk (blkC k.N k.sc scope own && !isSet it)
    let t ← cTg (k.blk scope) tg
    let _ ← chk ((slotsT t).all fun i => decide (i ∈ own.map (·.2)))
    let cc ← (match ifs with
      | [] => some (.cst (.bl true))
      | [c] => cE n (k.blk scope) c
      | _ => none)
    let ce ← cE n (k.blk scope) elt
    some (ce, t, cit, cc)
end
def swNames (sc : Scope) (ts : List Expr) : List Str := ts.filterMap fun
    | .Name id pos => if (sc.names.lookup id == some .local && pos.line == (ts.head?.map (·.pos.line)).getD 0) = true then some id else none
    | _ => none
def hasStar (vs : List Expr) : Bool := vs.any fun | .Starred .. => true | _ => false
def swP (sc : Scope) (ts vs : List Expr) : Option (Option (List Str)) :=
  if (!(ts.length == 2 || ts.length == 3) || vs.length != ts.length) = true then some none else
  if hasStar vs = true then some none else
  if ((swNames sc ts).length != ts.length || (swNames sc ts).eraseDups.length != (swNames sc ts).length) = true then some none else
  if vs.all (foldedForSure 8) = true then some none else
  if vs.all (constantsAlone 8) = true then none else some (some (swNames sc ts))
def cQs (N : List Str) (sc : Scope) : List Str → Option (List (Nat × Str))
  | [] => some []
  | x :: xs => do
    let i ← ixOf N x
    let _ ← chk (isLocal sc x)
    let r ← cQs N sc xs
    some ((i, x) :: r)
def cIp : Operator → Option Op2
  | .Add => some .add
  | .Sub => some .sub
  | .Mult => some .mul
  | .FloorDiv => some .fdiv
  | _ => none
mutual
def cS : Nat → Kx → Stmt → Option S
  | 0, _, _ => none
  | n + 1, k, s => match s with
    | .Expr e _ => do
      let c ← cE n k e
      let _ ← chk (noComp e)
      some (.expr c)
    | .Return none _ => some (.ret (.cst .non))
    | .Return (some e) _ => do
      let c ← cE n k e
      some (.ret c)
    | .Pass _ => some .pass
    | .Break _ => some .brk
    | .Continue _ => some .cont
    | .Assign [.Name y py] e p => do
      let i ← ixOf k.N y
      let _ ← chk (isLoc k.sc y && (k.fn y || isLocal k.sc y))
      match e with
      | .ListComp elt [⟨tg, it, ifs, 0⟩] scope cp => do
        let (ce, t, cit, cc) ← cLc n k elt tg it ifs scope
        some (.asg (.tg (.nm i)) (.lc ce t cit cc ((ownOf k.N scope.names).map (·.2))))
      | e => do
        let _ ← chk (noComp e)
        let c ← cE n k e
        some (.asg (.tg (.nm i)) c)
    | .Assign [.Tuple ts kt pt] (.Tuple vs k2 p2) _ => do
      let r ← swP k.sc ts vs
      match r with
      | some names => do
        let qs ← cQs k.N k.sc names
        let cs ← cEs n k vs
        some (.par (qs.map (·.1)) cs)
      | none => do
        let t ← cTg k (.Tuple ts kt pt)
        let cs ← cEs n k vs
        some (.asg (.tg t) (.tup cs))
    | .Assign [.Tuple ts kt pt] e _ => do
      let _ ← chk (match e with
        | .Tuple .. => false
        | _ => true)
      let t ← cTg k (.Tuple ts kt pt)
      let c ← cE n k e
      some (.asg (.tg t) c)
    | .Assign [.Subscript a (.Slice none none none _) _] e _ => do
      let ca ← cE n k a
      let c ← cE n k e
      some (.asg (.all ca) c)
    | .Assign [.Subscript a b _] e _ => do
      let _ ← chk (noSlice b)
      let ca ← cE n k a
      let cb ← cE n k b
      let c ← cE n k e
      some (.asg (.sub ca cb) c)
    | .Assign [.Attribute a y _] e _ => do
      let ca ← cE n k a
      let f ← ixOf k.nms y
      let c ← cE n k e
      some (.asg (.fld ca f) c)
    | .AugAssign (.Name y _) op e _ => do
      let i ← ixOf k.N y
      let _ ← chk (isLoc k.sc y && (k.fn y || isLocal k.sc y))
      let o ← cIp op
      let c ← cE n k e
      some (.aug i o c)
    | .AugAssign (.Subscript a b _) op e _ => do
      let _ ← chk (noSlice b)
      let o ← cIp op
      let ca ← cE n k a
      let cb ← cE n k b
      let c ← cE n k e
      some (.augs ca cb o c)
    | .AugAssign (.Attribute a y _) op e _ => do
      let o ← cIp op
      let f ← ixOf k.nms y
      let ca ← cE n k a
      let c ← cE n k e
      some (.augf ca f o c)
    | .If c a b _ => do
      let cc ← cE n k c
      let ca ← cSs n k a
      let cb ← cSs n k b
      some (.ite cc ca cb)
    | .While c a [] _ => do
      let cc ← cE n k c
      let ca ← cSs n k a
      some (.while cc ca)
    | .For tg it a [] _ => do
      let t ← cTg k tg
      let _ ← chk (!isSet it)
      let cit ← cIt n k it
      let ca ← cSs n k a
      some (.for t cit ca)
    | _ => none
def cSs : Nat → Kx → List Stmt → Option Ss
  | 0, _, _ => none
  | n + 1, k, ss => match ss with
    | [] => some .nil
    | s :: ss => do
      let c ← cS n k s
      let cs ← cSs n k ss
      some (.cons c cs)
end
end Ev
namespace Ev
open PySem PySem.W L2 PyProof.Rows
theorem obind {α β : Type} {x : Option α} {f : α → Option β} {b : β} (h : (x >>= f) = some b) : ∃ a, x = some a ∧ f a = some b := Option.bind_eq_some_iff.mp h
theorem oelim {α β : Type} {x : Option α} {f : α → Option β} {b : β} (h : x.elim none f = some b) : ∃ a, x = some a ∧ f a = some b := by
  cases x with
  | none => cases h
  | some a => exact ⟨a, rfl, h⟩
theorem and1 {a b : Bool} (h : (a && b) = true) : a = true ∧ b = true := by rwa [Bool.and_eq_true] at h
theorem not1 {a : Bool} (h : (!a) = true) : a = false := by cases a <;> first | rfl | cases h
/-- what the running def gives -/
structure Stat [Tab] (X : Cx) (cf : Cf) (k : Kx) : Prop where
  hN : X.N = k.N
  nd : X.N.Nodup
  sc : X.env.scope = k.sc
  kd : k.sc.kind = .function
  fn : ∀ x, k.fn x = true → X.fn x = true
  hc : X.calm = true
  xe : X.xe = fun _ _ => False
  hu : X.A.units + 70 < cLine
  nm : k.nms = Tab.nm
  fu : ∀ x i, k.funs.lookup x = some i → ∀ ds M z, cf.call i ds M = some z → ∃ g, X.mg x = some (.ref g) ∧ PySem.W.keepIn X.K (.ref g) = true ∧ CallOk X 0 (cf.call i) g
  cl : ∀ x C, k.cls.lookup x = some C → ∀ ds M z, cf.init C ds M = some z → ∃ c g, (Tab.cn[C]? = some x ∧ X.mg x = some (.ref c) ∧ Cls X.K c ∧ ∀ f y, (C, f) ∈ Tab.fl → Tab.nm[f]? = some y → NoAttr X.K c y) ∧ Mk X.K c g ∧ CallOk X 1 (cf.init C) g
  me : ∀ m y, Tab.nm[m]? = some y → MethFact X cf m y
  fr : ∀ x, x ∈ k.free → X.mg x = none
section
variable [Tab] {X : Cx} {cf : Cf} {k : Kx}
theorem Stat.slot (S : Stat X cf k) {x : Str} {i : Nat} (h : ixOf k.N x = some i) : X.N[i]? = some x := by rw [S.hN]; exact ixOf_get h
theorem Stat.name (S : Stat X cf k) {x : Str} {i : Nat} (h : ixOf k.nms x = some i) : Tab.nm[i]? = some x := by rw [← S.nm]; exact ixOf_get h
theorem Stat.vis (S : Stat X cf k) {x : Str} (h : isVis k.sc x = true) : Vis X.env.scope x := by rw [S.sc]; exact isVis_ok h
theorem Stat.loc (S : Stat X cf k) {x : Str} (h : isLoc k.sc x = true) : Loc X.env.scope x := by rw [S.sc]; exact isLoc_ok h
theorem Stat.locl (S : Stat X cf k) {x : Str} (h : isLocal k.sc x = true) : X.env.scope.names.lookup x = some .local := by rw [S.sc]; exact isLocal_ok h
theorem Stat.gl (S : Stat X cf k) {x : Str} (h : isGl k.sc x = true) : Gl X x := by
  have h := isGl_ok h
  rw [← S.sc] at h
  exact h
theorem Stat.hf (S : Stat X cf k) {x : Str} (h : (k.fn x || isLocal k.sc x) = true) : X.fn x = true ∨ X.env.scope.names.lookup x = some .local := by
  rcases Bool.or_eq_true _ _ ▸ h with h | h
  · exact .inl (S.fn x h)
  · exact .inr (S.locl h)
theorem Stat.blk (S : Stat X cf k) {scope : Scope} {own : List (Str × Nat)} (B : BlkOk k.N k.sc scope own) (s : Shared) (H : Hp) (C : Addr) (cl : List (Str × Addr)) (fp : List Addr) :
    Stat (X.blk s H scope (compEnvC scope cl C X.env) fp) cf (k.blk scope) where
  hN := S.hN
  nd := S.nd
  sc := by
    show relS scope X.env.scope = relS scope k.sc
    rw [S.sc]
  kd := B.kind
  fn := fun x h => h
  hc := S.hc
  xe := rfl
  hu := S.hu
  nm := S.nm
  fu := S.fu
  cl := S.cl
  me := S.me
  fr := S.fr
end
/-! ### the small tables -/
section
variable [Tab] {X : Cx} {cf : Cf} {k : Kx}
theorem cOp_ok {op : Operator} {o : Op2} (h : cOp op = some o) : OpR X (binaryOp op) (R2o X.K X.mg o) := by
  cases op <;> first | cases h | skip
  · exact o_add
  · exact o_sub
  · exact o_mul
  · exact o_mod
  · exact o_pow
  · exact o_fdiv
theorem cCmp_ok {op : CmpOp} (hu : X.A.units + 70 < cLine) : OpR X (compareOp op) (R2o X.K X.mg (cCmp op)) := by
  cases op
  · exact o_eq (by omega)
  · exact o_ne (by omega)
  · exact o_lt
  · exact o_le
  · exact o_gt
  · exact o_ge
  · exact o_is
  · exact o_isnot
  · exact o_in hu
  · exact o_notin hu
theorem cConst_ok {c : Const} {d : D} {j : Nat} {pos : Pos} (h : cConst c = some d) : CE X cf (.Constant c j pos) (.cst d) := by
  cases c <;> first | cases h | skip
  · exact ce_cst pe_non fun K r H => rfl
  · exact ce_cst pe_bl fun K r H => rfl
  · exact ce_cst pe_int fun K r H => rfl
  · exact ce_cst pe_str fun K r H => rfl
theorem cTy_ok {tn : Str} {t : Ty} (h : cTy tn = some t) : bootBuiltins tn = some (.type (tyS t)) ∧ tn ≠ "__name__" ∧ (tn == ("__debug__" : Str)) = false := by
  unfold cTy at h
  split at h
  · rename_i e; subst e; cases h; exact ⟨rfl, by decide, by decide⟩
  · split at h
    · rename_i e; subst e; cases h; exact ⟨rfl, by decide, by decide⟩
    · split at h
      · rename_i e; subst e; cases h; exact ⟨rfl, by decide, by decide⟩
      · split at h
        · rename_i e; subst e; cases h; exact ⟨rfl, by decide, by decide⟩
        · split at h
          · rename_i e; subst e; cases h; exact ⟨rfl, by decide, by decide⟩
          · cases h
/-- a bound of a slice: as an int -/
theorem co_int {a : Expr} {ca : E} (ha : CE X cf a ca) : CO X cf (some a) (.op .sub ca (.cst (.int 0))) := ⟨⟨fun pins s σ H Q I z => by
  obtain ⟨r, v, M, d, M', o, F, e, e2, P⟩ := z
  obtain ⟨x, N1, g1, e3⟩ := bnd_eq e
  obtain ⟨y, N2, g2, e4⟩ := bnd_eq e3
  cases g2
  have key : ∃ i, x = .v (.int i) ∧ o = some i ∧ M' = N1 := by
    cases x with
    | l x => cases e4
    | v x => 
      cases x <;> first | cases e4 | skip
      rw [Int.sub_zero] at e2
      cases e2
      exact ⟨_, rfl, rfl, rfl⟩
  obtain ⟨i, rfl, rfl, rfl⟩ := key
  exact (po_some ha.pe).run pins s σ H Q I ⟨r, v, M, _, M', F, g1, fun r' H' x R n q => ⟨i, q, P r' H' R n⟩⟩⟩⟩
theorem bi_any_call {b : BI} {es : List Expr} {ces : Es} {p pos : Pos} {x : Str} (h : PE X (.Call (.Name x p) es [] pos) (tCB (RBi X.K X.mg b) (TrAs cf X.K X.mg ces))) : CE X cf (.Call (.Name x p) es [] pos) (.bi b ces) := by
  refine CE.of (h.evI fun σ H Q z => ?_) fun _ => rfl
  obtain ⟨r, v, M, d, M', F, e, P⟩ := z
  obtain ⟨as, N1, g1, e1⟩ := bnd_eq e
  exact ⟨r, v, M, as, N1, F, g1, fun r' H' xs R n q => ⟨r', N1, as, d, M', H, R, q, e1, P.nx F.1 R n⟩⟩
/-- what stands behind a built-in's name -/
def BIok (X : Cx) (x : Str) (f : BI) : Prop := x ≠ "__name__" ∧ (x == ("__debug__" : Str)) = false ∧ ((∃ id, bootBuiltins x = some (.builtin id) ∧ CallR X (.builtin id) (RBi X.K X.mg f)) ∨ ∃ id, bootBuiltins x = some (.type id) ∧ CallR X (.type id) (RBi X.K X.mg f))
theorem bok_b {x : Str} {id : String} {f : BI} (hv : bootBuiltins x = some (.builtin id)) (hn : x ≠ "__name__") (hd : (x == ("__debug__" : Str)) = false) (c : CallR X (.builtin id) (RBi X.K X.mg f)) : BIok X x f := ⟨hn, hd, .inl ⟨id, hv, c⟩⟩
theorem bok_t {x : Str} {id : String} {f : BI} (hv : bootBuiltins x = some (.type id)) (hn : x ≠ "__name__") (hd : (x == ("__debug__" : Str)) = false) (c : CallR X (.type id) (RBi X.K X.mg f)) : BIok X x f := ⟨hn, hd, .inr ⟨id, hv, c⟩⟩
theorem ite_some {α : Type} {p : Prop} [Decidable p] {a : Option α} {b : Option α} {c : α} (h : (if p then a else b) = some c) : (p ∧ a = some c) ∨ (¬ p ∧ b = some c) := by
  by_cases q : p
  · rw [if_pos q] at h; exact .inl ⟨q, h⟩
  · rw [if_neg q] at h; exact .inr ⟨q, h⟩
theorem cBI_ok {x : Str} {f : BI} {n : Nat} (hc : X.calm = true) (hu : X.A.units + 70 < cLine) (h : cBI x n = some f) : BIok X x f := by
  unfold cBI at h
  rcases ite_some h with ⟨rfl, h⟩ | ⟨_, h⟩
  · cases h; exact bok_b rfl (by decide) rfl bi_len
  rcases ite_some h with ⟨rfl, h⟩ | ⟨_, h⟩
  · cases h; exact bok_t rfl (by decide) rfl bi_tuple
  rcases ite_some h with ⟨rfl, h⟩ | ⟨_, h⟩
  · cases h; exact bok_t rfl (by decide) rfl bi_list
  rcases ite_some h with ⟨rfl, h⟩ | ⟨_, h⟩
  · cases h; exact bok_b rfl (by decide) rfl (bi_sorted hc hu)
  rcases ite_some h with ⟨rfl, h⟩ | ⟨_, h⟩
  · cases h; exact bok_b rfl (by decide) rfl (bi_sum hc)
  rcases ite_some h with ⟨rfl, h⟩ | ⟨_, h⟩
  · cases h; exact bok_b rfl (by decide) rfl (bi_all hc)
  rcases ite_some h with ⟨rfl, h⟩ | ⟨_, h⟩
  · cases h; exact bok_b rfl (by decide) rfl (bi_any hc)
  rcases ite_some h with ⟨rfl, h⟩ | ⟨_, h⟩
  · cases h; exact bok_b rfl (by decide) rfl bi_abs
  rcases ite_some h with ⟨rfl, h⟩ | ⟨_, h⟩
  · cases h; exact bok_t rfl (by decide) rfl bi_int
  rcases ite_some h with ⟨rfl, h⟩ | ⟨_, h⟩
  · by_cases q : n = 1 ∨ n = 2
    · rw [if_pos q] at h; cases h; exact bok_b rfl (by decide) rfl (bi_max hc hu)
    · rw [if_neg q] at h; cases h
  rcases ite_some h with ⟨rfl, h⟩ | ⟨_, h⟩
  · by_cases q : n = 1 ∨ n = 2
    · rw [if_pos q] at h; cases h; exact bok_b rfl (by decide) rfl (bi_min hc hu)
    · rw [if_neg q] at h; cases h
  cases h
theorem cBIm_ok {x : Str} {f : BI} {n : Nat} {m : Bool} (hc : X.calm = true) (hu : X.A.units + 70 < cLine) (h : cBIm x n m = some f) : BIok X x f := by
  unfold cBIm at h
  by_cases e1 : x = "dict"
  · rw [if_pos e1] at h
    subst e1
    by_cases e2 : n = 1
    · rw [if_pos e2] at h
      cases m with
      | true =>
        rw [if_pos rfl] at h
        injection h with h
        subst h
        exact bok_t rfl (by decide) rfl (bi_dictT hc hu)
      | false =>
        rw [if_neg (by decide)] at h
        injection h with h
        subst h
        exact bok_t rfl (by decide) rfl (bi_dictK hc)
    · rw [if_neg e2] at h
      cases h
  · rw [if_neg e1] at h
    cases m with
    | true =>
      rw [if_pos rfl] at h
      by_cases e3 : x = "tuple"
      · rw [if_pos e3] at h
        subst e3
        injection h with h
        subst h
        exact bok_t rfl (by decide) rfl bi_xtup
      · rw [if_neg e3] at h
        cases h
    | false =>
      rw [if_neg (by decide)] at h
      exact cBI_ok hc hu h
/-- a built-in by its name -/
theorem bi_call {x : Str} {f : BI} {n : Nat} {m : Bool} {e : Expr} {es : List Expr} {ces : Es} {p pos : Pos} (hc : X.calm = true) (hu : X.A.units + 70 < cLine) (h : cBIm x n m = some f) (hg : Gl X x) (hm : X.mg x = none) (ha : PA X (e :: es) (TrAs cf X.K X.mg ces)) (hs : (e :: es).all noStar = true) :
    CE X cf (.Call (.Name x p) (e :: es) [] pos) (.bi f ces) := by
  have hs' := hs
  rw [List.all_cons, Bool.and_eq_true] at hs'
  obtain ⟨hn, hd, ⟨id, hv, c⟩ | ⟨id, hv, c⟩⟩ := cBIm_ok hc hu h
  · exact bi_any_call (pe_callB c hg hm hv ha hn hd (star_cons hs'.1) (star_plain hs'.2))
  · exact bi_any_call (pe_callTy c hg hm hv ha hn hd (star_cons hs'.1) (star_plain hs'.2))
theorem isSet_no {e : Expr} (h : isSet e = false) : ∀ a b c, e ≠ .Set a b c := fun a b c w => by subst w; cases h
/-! ### targets -/
mutual
theorem cTg_ok : ∀ {e : Expr} {t : Tg}, Stat X cf k → cTg k e = some t → PG X e (TrG X.K t) ∧ noStar e = true
  | .Name x _, t, S, h => by
    unfold cTg at h
    obtain ⟨i, h1, h⟩ := obind h
    obtain ⟨_, h2, h⟩ := obind h
    obtain ⟨_, h3, h⟩ := obind h
    cases h
    exact ⟨cg_nm S.nd (S.slot h1) (S.loc (chk_eq h2)) (S.hf (chk_eq h3)), rfl⟩
  | .Tuple es _ _, t, S, h => by
    unfold cTg at h
    obtain ⟨_, h2, h⟩ := obind h
    obtain ⟨ts, h1, h⟩ := obind h
    cases h
    obtain ⟨g, l⟩ := cTgs_ok S h1
    exact ⟨cg_tup S.hc g (chk_eq h2) l, rfl⟩
  | .BoolOp .., _, _, h | .NamedExpr .., _, _, h | .BinOp .., _, _, h | .UnaryOp .., _, _, h | .Lambda .., _, _, h | .IfExp .., _, _, h | .Dict .., _, _, h | .Set .., _, _, h | .ListComp .., _, _, h | .SetComp .., _, _, h | .DictComp .., _, _, h | .GeneratorExp .., _, _, h
  | .Await .., _, _, h | .Yield .., _, _, h | .YieldFrom .., _, _, h | .Compare .., _, _, h | .Call .., _, _, h | .FormattedValue .., _, _, h | .JoinedStr .., _, _, h | .Constant .., _, _, h | .Attribute .., _, _, h | .Subscript .., _, _, h | .Starred .., _, _, h | .List .., _, _, h | .Slice .., _, _, h => by
    unfold cTg at h; cases h
theorem cTgs_ok : ∀ {es : List Expr} {ts : List Tg}, Stat X cf k → cTgs k es = some ts → PGs X es (TrGs X.K ts) ∧ es.length = ts.length
  | [], ts, S, h => by
    unfold cTgs at h
    cases h
    exact ⟨cg_nil, rfl⟩
  | e :: es, ts, S, h => by
    unfold cTgs at h
    obtain ⟨t, h1, h⟩ := obind h
    obtain ⟨ts', h2, h⟩ := obind h
    cases h
    obtain ⟨g, l⟩ := cTgs_ok S h2
    obtain ⟨g1, s1⟩ := cTg_ok S h1
    exact ⟨cg_cons g1 g s1, by simp [l]⟩
end
end
end Ev
namespace Ev
open PySem PySem.W L2 PyProof.Rows
/-- the expressions of a text are what they were read as -/
structure Snd [Tab] (n : Nat) : Prop where
  e : ∀ {X cf k e c}, Stat X cf k → cE n k e = some c → CE X cf e c
  bo : ∀ {X cf k op es c pos}, Stat X cf k → cBo n k op es = some c → CW X cf (.BoolOp op es pos) c
  o : ∀ {X cf k e c}, Stat X cf k → cO n k e = some c → CO X cf e c
  es : ∀ {X cf k es cs}, Stat X cf k → cEs n k es = some cs → PA X es (TrDs cf X.K X.mg cs) ∧ es.all noStar = true ∧ (es = [] → cs = .nil)
  as : ∀ {X cf k es cs}, Stat X cf k → cAs n k es = some cs → PA X es (TrAs cf X.K X.mg cs) ∧ es.all noStar = true ∧ ∀ e es', es = e :: es' → ∃ c cs', cs = .cons c cs' ∧ CE X cf e c ∧ ∀ f, es' = [f] → ∃ d, cs' = .cons d .nil ∧ CE X cf f d
  ps : ∀ {X cf k ks vs cs} (pos : Pos), Stat X cf k → cPs n k ks vs = some cs → PPs X pos ks vs (cs.map fun p => (TrD cf X.K X.mg p.1, TrD cf X.K X.mg p.2))
  it : ∀ {X cf k e c tg}, Stat X cf k → cIt n k e = some c → PI X tg e (TrI cf X.K X.mg c)
  lc : ∀ {X cf k elt tg it ifs scope ce t cit cc}, Stat X cf k → cLc n k elt tg it ifs scope = some (ce, t, cit, cc) → LcParts X cf tg elt it ifs scope (ownOf k.N scope.names) ce t cit cc
section
variable [Tab] {n : Nat}
theorem snd0 : Snd 0 where
  e := fun _ h => by unfold cE at h; cases h
  bo := fun _ h => by unfold cBo at h; cases h
  o := fun _ h => by unfold cO at h; cases h
  es := fun _ h => by unfold cEs at h; cases h
  as := fun _ h => by unfold cAs at h; cases h
  ps := fun _ _ h => by unfold cPs at h; cases h
  it := fun _ h => by unfold cIt at h; cases h
  lc := fun _ h => by unfold cLc at h; cases h
theorem snd_bo (I : Snd n) {X : Cx} {cf : Cf} {k : Kx} {op : BoolOp} {es : List Expr} {c : E} {pos : Pos} (S : Stat X cf k) (h : cBo (n + 1) k op es = some c) : CW X cf (.BoolOp op es pos) c := by
  unfold cBo at h
  split at h
  · cases h
  · exact cw_one (I.e S h)
  · obtain ⟨ca, h1, h⟩ := obind h
    obtain ⟨cb, h2, h⟩ := obind h
    cases h
    cases op
    · exact cw_and (I.e S h1) (I.bo S h2)
    · exact cw_or (I.e S h1) (I.bo S h2)
theorem snd_o (I : Snd n) {X : Cx} {cf : Cf} {k : Kx} {e : Option Expr} {c : E} (S : Stat X cf k) (h : cO (n + 1) k e = some c) : CO X cf e c := by
  unfold cO at h
  split at h
  · cases h; exact co_none
  · obtain ⟨ca, h1, h⟩ := obind h
    cases h
    exact co_int (I.e S h1)
theorem snd_es (I : Snd n) {X : Cx} {cf : Cf} {k : Kx} {es : List Expr} {cs : Es} (S : Stat X cf k) (h : cEs (n + 1) k es = some cs) : PA X es (TrDs cf X.K X.mg cs) ∧ es.all noStar = true ∧ (es = [] → cs = .nil) := by
  unfold cEs at h
  split at h
  · cases h; exact ⟨pds_nil, rfl, fun _ => rfl⟩
  · obtain ⟨_, h0, h⟩ := obind h
    obtain ⟨ca, h1, h⟩ := obind h
    obtain ⟨cb, h2, h⟩ := obind h
    cases h
    obtain ⟨p, q, _⟩ := I.es S h2
    exact ⟨pds_cons (I.e S h1) p (star_cons (chk_eq h0)), by rw [List.all_cons, chk_eq h0, q]; rfl, fun w => by cases w⟩
theorem snd_as (I : Snd n) {X : Cx} {cf : Cf} {k : Kx} {es : List Expr} {cs : Es} (S : Stat X cf k) (h : cAs (n + 1) k es = some cs) : PA X es (TrAs cf X.K X.mg cs) ∧ es.all noStar = true ∧ ∀ e es', es = e :: es' → ∃ c cs', cs = .cons c cs' ∧ CE X cf e c ∧ ∀ f, es' = [f] → ∃ d, cs' = .cons d .nil ∧ CE X cf f d := by
  unfold cAs at h
  split at h
  · cases h; exact ⟨pas_nil, rfl, fun _ _ w => by cases w⟩
  · obtain ⟨_, h0, h⟩ := obind h
    obtain ⟨ca, h1, h⟩ := obind h
    obtain ⟨cb, h2, h⟩ := obind h
    cases h
    obtain ⟨p, q, z⟩ := I.as S h2
    refine ⟨pas_cons (I.e S h1) p (star_cons (chk_eq h0)), by rw [List.all_cons, chk_eq h0, q]; rfl, fun e' es' w => ?_⟩
    cases w
    refine ⟨_, _, rfl, I.e S h1, fun f w => ?_⟩
    subst w
    obtain ⟨d, ds, hd, hf, _⟩ := z f [] rfl
    refine ⟨d, ?_, hf⟩
    rw [hd]
    congr 1
    -- one expression, one reading
    cases n with
    | zero => unfold cAs at h2; cases h2
    | succ n =>
      unfold cAs at h2
      obtain ⟨_, _, h2⟩ := obind h2
      obtain ⟨_, _, h2⟩ := obind h2
      obtain ⟨cz, h3, h2⟩ := obind h2
      cases h2
      cases hd
      cases n with
      | zero => unfold cAs at h3; cases h3
      | succ n => unfold cAs at h3; cases h3; rfl
theorem snd_ps (I : Snd n) {X : Cx} {cf : Cf} {k : Kx} {ks : List (Option Expr)} {vs : List Expr} {cs : List (E × E)} (pos : Pos) (S : Stat X cf k) (h : cPs (n + 1) k ks vs = some cs) : PPs X pos ks vs (cs.map fun p => (TrD cf X.K X.mg p.1, TrD cf X.K X.mg p.2)) := by
  unfold cPs at h
  split at h
  · cases h; exact pps_nil
  · obtain ⟨ca, h1, h⟩ := obind h
    obtain ⟨cb, h2, h⟩ := obind h
    obtain ⟨r, h3, h⟩ := obind h
    cases h
    exact pps_cons (I.e S h1).pd (I.e S h2).pd (I.ps pos S h3)
  · cases h
theorem snd_it (I : Snd n) {X : Cx} {cf : Cf} {k : Kx} {e tg : Expr} {c : Ev.It} (S : Stat X cf k) (h : cIt (n + 1) k e = some c) : PI X tg e (TrI cf X.K X.mg c) := by
  unfold cIt at h
  split at h
  · split at h
    · rename_i w
      obtain ⟨rfl, w1, w2⟩ := w
      split at h
      · obtain ⟨_, h0, h⟩ := obind h
        obtain ⟨cb, h1, h⟩ := obind h
        cases h
        exact ci_rng1 (I.e S h1) (S.gl w1) (S.fr _ w2) (chk_eq h0)
      · obtain ⟨_, h0, h⟩ := obind h
        obtain ⟨ca, h1, h⟩ := obind h
        obtain ⟨cb, h2, h⟩ := obind h
        cases h
        obtain ⟨s1, s2⟩ := and1 (chk_eq h0)
        exact ci_rng2 (I.e S h1) (I.e S h2) (S.gl w1) (S.fr _ w2) s1 s2
      · cases h
    · obtain ⟨cb, h1, h⟩ := obind h
      cases h
      exact ci_ex (I.e S h1)
  · obtain ⟨_, h0, h⟩ := obind h
    obtain ⟨cb, h1, h⟩ := obind h
    cases h
    exact ci_ex (I.e S h1)
theorem snd_lc (I : Snd n) {X : Cx} {cf : Cf} {k : Kx} {elt tg it : Expr} {ifs : List Expr} {scope : Scope} {ce : E} {t : Tg} {cit : Ev.It} {cc : E} (S : Stat X cf k) (h : cLc (n + 1) k elt tg it ifs scope = some (ce, t, cit, cc)) :
    LcParts X cf tg elt it ifs scope (ownOf k.N scope.names) ce t cit cc := by
  unfold cLc at h
  obtain ⟨cit', h1, h⟩ := obind h
  obtain ⟨_, h2, h⟩ := obind h
  obtain ⟨t', h3, h⟩ := obind h
  obtain ⟨_, h4, h⟩ := obind h
  obtain ⟨cc', h5, h⟩ := obind h
  obtain ⟨ce', h6, h⟩ := obind h
  cases h
  obtain ⟨b1, b2⟩ := and1 (chk_eq h2)
  have B : BlkOk k.N k.sc scope (ownOf k.N scope.names) := blkOk_by b1
  refine ⟨I.it S h1, by rw [S.hN, S.sc]; exact B, fun i hi => ?_, fun s H C cl fp => (cTg_ok (S.blk B s H C cl fp) h3).1, fun s H C cl fp => ?_, fun s H C cl fp => (I.e (S.blk B s H C cl fp) h6).pd, fun x => folded_ok (isSet_no (not1 b2))⟩
  · exact of_decide_eq_true (List.all_eq_true.mp (chk_eq h4) i hi)
  · split at h5
    · cases h5; exact pts_none
    · exact pts_some (I.e (S.blk B s H C cl fp) h5)
    · cases h5
end
end Ev
namespace Ev
open PySem PySem.Spec PyProof.Rows L2
/-- what set() lays -/
abbrev oNew (w : World) : Obj := { cls := .type "set", dict := none, data := .set #[] 0 (.fresh 0 0 (!w.params.followText "set-order")) }
section
variable {P : Program} {w : World} {A : Around} {E : Value → Shared → Prop} {s : Shared}
set_option maxRecDepth 100000 in
set_option maxHeartbeats 3200000 in
/-- set(xs), xs a list of ints -/
theorem set_of_list {l : Addr} {xs : Array Value} (zs : List Int) {Q : Value → Shared → Prop} (hh : A.handled = none) (hl : s.heap.IsList l xs) (hz : IntsAre xs.toList zs) (hb : zs.length + 1 < scanBound)
    (h : ∀ (g : Heap) (tk c : Nat), SetR w g s.heap.objs.size (fun j => decide (j ∈ zs)) c → c ≤ zs.length → (∀ b o, s.heap.get? b = some o → g.get? b = some o) → Q (.ref s.heap.objs.size) { s with heap := g, toks := tk }) :
    wpAny (model P w) A (call (.type "set") [.ref l]) Q E s := by
  have hn : xs.size = zs.length := by
    have q := hz.length
    rw [Array.length_toList] at q; exact q
  obtain ⟨c, tl, e0⟩ := F.called_set.mro
  have e1 := F.called_set.made; have e2 := F.called_set.sub
  refine wpAny_call (codeAny_of_tree ?_)
  show wpAny _ _ (callAny (.type "set") ⟨[.ref l], []⟩) _ _ _
  refine wpAny_pure ⟨Code.quiet_builtin _ (by decide +kernel), codeAny_builtin F.entry_type_call ?_⟩
  rw [Around.under_plain (weight_type_call_type _ [.ref l] []) rfl]
  have e3 := F.called_set.notType; have e4 := F.called_set.canCreate; have e5 := F.typeCall_set_1 (.ref l)
  repeat (any_goals (first | assumption | wp_step))
  refine codeAny_mono (code_set_led1 (.ref l) (E := E) (Q₁ := fun p t => p = .ref s.heap.objs.size ∧ t = { s with heap := s.heap.push (oNew w) }) ⟨rfl, rfl⟩) fun r t hr => ?_
  cases r with
  | error e => exact hr
  | ok fl =>
    cases fl with
    | ret p =>
      obtain ⟨rfl, rfl⟩ := hr
      have k1 : (s.heap.push (oNew w)).get? s.heap.objs.size = some (oNew w) := Heap.get?_push_size _ rfl
      have k2 : Shared.TypeIs { s with heap := s.heap.push (oNew w) } (.ref s.heap.objs.size) "set" := ⟨_, k1, rfl⟩
      have e6 := F.called_set.init.lookup; have e7 := F.called_set.init.bind (.ref s.heap.objs.size)
      repeat (any_goals (first | assumption | wp_step))
      refine codeAny_mono (codeAny_call_builtin (R := wants (fun r t => r = .none ∧ ∃ g tk c, t = { s with heap := g, toks := tk } ∧ SetR w g s.heap.objs.size (fun j => decide (j ∈ zs)) c ∧ c ≤ zs.length ∧
          (∀ b o, s.heap.get? b = some o → g.get? b = some o)) E) F.called_set.init.plain F.entry_set_init (check_set_init_1 k2 ?_)) fun r2 t2 hr2 => ?_
      · obtain ⟨o, ho, hc, nl, hd⟩ := hl
        obtain ⟨oc, od, odt, osl⟩ := o
        simp only at hc hd
        subst hc; subst hd
        have ho' : (s.heap.push (oNew w)).get? l = some { cls := .type "list", dict := od, data := .seq xs nl, slots := osl } := Heap.get?_push_of_some _ ho
        have e8 := F.sub_list_set; have e9 := F.sub_list_frozenset
        have e10 : (Value.type "list" == .type "dict") = false := by decide
        have hl1 : (s.heap.push (oNew w)).IsList l xs := ⟨_, ho', rfl, nl, rfl⟩
        unfold Builtin.«set.__init__» noKeywords Builtin.Frozenset.updateFrom
        generalize hPI : pyIter = PI; wp_walk; subst hPI
        refine wpAny_pyIter_list hl1 (wpAny_bind (wpAny_runValue ?_))
        have hlt : l < s.heap.objs.size := Heap.lt_size ho
        have hh3 : A.in1.in1.in1.handled = none := by simp [hh]
        have hsz : (s.heap.push (oNew w)).objs.size = s.heap.objs.size + 1 := Heap.size_push ..
        have n1 : l ≠ (s.heap.push (oNew w)).objs.size := by rw [hsz]; exact Nat.ne_of_lt (Nat.lt_add_right 1 hlt)
        have n2 : s.heap.objs.size ∉ [(s.heap.push (oNew w)).objs.size, l] := by
          rw [hsz]
          intro q
          rcases List.mem_cons.mp q with q | q
          · exact absurd q (Nat.ne_of_lt (Nat.lt_add_one _))
          · exact absurd (List.mem_singleton.mp q) (Nat.ne_of_gt hlt)
        have val : ∀ (i : Nat) (v : Value), xs[i]? = some v → ∃ k t, zs[i]? = some k ∧ v = .int k t := fun i v hv => by
          have hi : i < zs.length := hn ▸ (Array.getElem?_eq_some_iff.mp hv).1
          obtain ⟨t, e⟩ := hz.int_at i v (by rw [Array.getElem?_toList]; exact hv)
          exact ⟨zs[i], t, List.getElem?_eq_getElem hi, by rw [e, List.getD_eq_getElem?_getD, List.getElem?_eq_getElem hi]; rfl⟩
        refine set_update_ints ((Walks.list hh3 _ l n1 xs).toS) s.heap.objs.size n2 zs hn hb val (xs.size - 0) 0 _ (by omega) (Nat.zero_le _) ⟨⟨_, Heap.get?_push_size _ rfl, rfl, rfl⟩, (hl1.push _)⟩ ?z0 ?z1
        case z0 => exact ⟨0, Nat.le_refl 0, setR_new_at (Heap.get?_push_of_some _ k1)⟩
        case z1 =>
          intro t c hm hc hS
          obtain ⟨g, g2, d2, tk, os2⟩ := t
          have q1 : g2 = s.gens := hm.gens; have q2 : d2 = s.drawn := hm.drawn; have q3 : os2 = s.os := hm.os
          subst q1 q2 q3
          show wpAny _ _ _ _ _ _
          refine wpAny_pure ?_
          show wpAny _ _ (ret .none) _ _ _
          rw [hn] at hc
          refine wpAny_pure ⟨rfl, g, tk, c, rfl, hS, hc, fun b o e => ?_⟩
          have hb0 := Heap.lt_size e
          exact hm.heap b o (fun q => by
            rw [hsz] at q
            rcases List.mem_cons.mp q with q | q
            · exact absurd q (Nat.ne_of_lt hb0)
            · exact absurd (List.mem_singleton.mp q) (Nat.ne_of_lt (Nat.lt_add_right 1 hb0))) (Heap.get?_push_of_some _ (Heap.get?_push_of_some _ e))
      · cases r2 with
        | error e => exact hr2
        | ok fl2 =>
          cases fl2 with
          | ret r =>
            obtain ⟨rfl, g, tk, c, rfl, a1, a2, a3⟩ := hr2
            repeat (any_goals (first | assumption | wp_step))
            exact h _ _ _ a1 a2 a3
          | _ => exact hr2.elim
    | _ => exact hr.elim
end
end Ev
namespace Ev
open PySem PySem.W L2 PyProof.Rows
/-! ### len(set(xs)), sorted(set(xs)) of ints -/
theorem nub_mem (z : Int) : ∀ xs : List Int, z ∈ nubI xs ↔ z ∈ xs
  | [] => Iff.rfl
  | x :: xs => by
    unfold nubI
    have ih := nub_mem z xs
    split
    · rename_i h
      rw [ih, List.mem_cons]
      exact ⟨.inr, fun q => q.elim (fun e => e ▸ h) id⟩
    · rw [List.mem_cons, List.mem_cons, ih]
theorem nub_nodup : ∀ xs : List Int, (nubI xs).Nodup
  | [] => List.nodup_nil
  | x :: xs => by
    unfold nubI
    split
    · exact nub_nodup xs
    · rename_i h
      exact List.nodup_cons.mpr ⟨fun q => h ((nub_mem x xs).mp q), nub_nodup xs⟩
theorem nub_len : ∀ xs : List Int, (nubI xs).length ≤ xs.length
  | [] => Nat.le_refl _
  | x :: xs => by
    unfold nubI
    have := nub_len xs
    split
    · rw [List.length_cons]; omega
    · rw [List.length_cons, List.length_cons]; omega
theorem nub_perm {xs ys : List Int} (hn : ys.Nodup) (h : ∀ z, z ∈ ys ↔ z ∈ xs) : ys.Perm (nubI xs) :=
  (List.perm_ext_iff_of_nodup hn (nub_nodup xs)).mpr fun z => (h z).trans (nub_mem z xs).symm
theorem srt_eq {xs ys : List Int} (hs : ys.Pairwise (· < ·)) (h : ∀ z, z ∈ ys ↔ z ∈ xs) : ys = srtI (nubI xs) := by
  have hle : ys.Pairwise (· ≤ ·) := hs.imp fun q => by omega
  have hnd : ys.Nodup := hs.imp fun q e => by omega
  have hm : (srtI (nubI xs)).Pairwise (· ≤ ·) := by
    have := List.pairwise_mergeSort (le := fun a b : Int => decide (a ≤ b)) (fun a b c h1 h2 => by simp only [decide_eq_true_eq] at *; omega) (fun a b => by rw [Bool.or_eq_true, decide_eq_true_eq, decide_eq_true_eq]; omega) (nubI xs)
    exact this.imp fun q => of_decide_eq_true q
  exact List.Perm.eq_of_pairwise (le := fun a b : Int => a ≤ b) (fun a b _ _ h1 h2 => by omega) hle hm ((nub_perm hnd h).trans (List.mergeSort_perm _ _).symm)
section
variable [Tab] {X : Cx} {cf : Cf}
def rSetI (K : Frg) (w : World) : List V → Hp → VK → Prop := fun vs H Q => ∃ (p : Addr) (ns : List Int), vs = [V.ref p] ∧ (SqL K H p (ns.map V.int) ∨ SqT K H p (ns.map V.int)) ∧ ns.length ≤ 4000 ∧
  ∀ q, H q = none → Q (.ref q) (upd H q (SetO w q (fun j => decide (j ∈ ns)) (nubI ns).length))
theorem cr_setI (hc : X.calm = true) : CallR X (.type "set") (rSetI X.K X.w) := by
  intro pins s σ H vs us Q I r z
  obtain ⟨p, ns, rfl, hq, hl, k⟩ := z
  rw [Vals.ref1 r]
  have hb : ns.length + 1 < scanBound := by unfold scanBound; omega
  have fin : ∀ (g : Heap) (tk c : Nat), SetR X.w g s.heap.objs.size (fun j => decide (j ∈ ns)) c → c ≤ ns.length → (∀ b o, s.heap.get? b = some o → g.get? b = some o) → EP X pins σ Q (.ref s.heap.objs.size) { s with heap := g, toks := tk } := fun g tk c R _ hk => by
    have hcn : c = (nubI ns).length := by
      obtain ⟨o, es, ep, t, _, _, _, _, nd, hm, _, _, hn, _⟩ := R
      rw [← hn, ← Array.length_toList, ← (nub_perm nd fun z => by rw [← hm z, decide_eq_true_eq]).length_eq, List.length_map]
    subst hcn
    exact ⟨.ref s.heap.objs.size, upd H s.heap.objs.size (SetO X.w s.heap.objs.size (fun j => decide (j ∈ ns)) (nubI ns).length), I.laid (t' := tk) hk (Nat.le_refl _) (setO_new R), rfl, k _ (I.hok.fresh (Nat.le_refl _))⟩
  rcases hq with hq | hq
  · obtain ⟨its, rv, pl, _⟩ := I.list hq
    exact set_of_list ns (I.ok.hd hc) pl.isList (by simpa using intsAre_of rv) hb fin
  · obtain ⟨its, rv, ht, _⟩ := I.tuple hq
    exact call_set_tupI ns (I.ok.hd hc) ht (by simpa using intsAre_of rv) hb fin
def rLenS (w : World) : List V → Hp → VK → Prop := fun vs H Q => ∃ (a : Addr) (S : Int → Bool) (n : Nat), vs = [V.ref a] ∧ H a = some (SetO w a S n) ∧ n ≤ 4000 ∧ Q (.int n) H
theorem cr_lenS : CallR X (.builtin "len") (rLenS X.w) := by
  intro pins s σ H vs us Q I r z
  obtain ⟨a, S, n, rfl, ha, hn, k⟩ := z
  rw [Vals.ref1 r]
  obtain ⟨o, es, ep, t, ho, hex, hd, _, _, _, _, hf, e, _⟩ := setO_get I ha
  exact call_len_set ho hex hd hf (by omega) ⟨.int n, H, I.tok _, ⟨_, by rw [e]⟩, k⟩
/-- what is asked of a new set of ints -/
theorem set_ints {K : Frg} {mg : Str → Option Value} {r : List Addr} {H H0 : Hp} {M : Mem} (R : Rel K mg r H M) {x : A} {y : V} (q : RA K H0 r H x y) {ds : List D} {is : List Int} (h : itemsOf M x = some ds) (hi : intsOf ds = some is) :
    ∃ p, y = .ref p ∧ (SqL K H p (is.map V.int) ∨ SqT K H p (is.map V.int)) := by
  obtain ⟨p, vs, rfl, s, _, hs⟩ := items_sq R q h
  have := ints_rv hi s
  subst this
  rcases hs with ⟨hs, _⟩ | ⟨hs, _⟩
  · exact ⟨p, rfl, .inl hs⟩
  · exact ⟨p, rfl, .inr hs⟩
theorem ints_RVs {K : Frg} {r : List Addr} {H : Hp} : ∀ is : List Int, RVs K r H (is.map D.int) (is.map V.int)
  | [] => rfl
  | i :: is => ⟨_, _, rfl, rfl, ints_RVs is⟩
theorem ce_lenset {a : Expr} {ca : E} {p p2 q pos : Pos} (hc : X.calm = true) (hg : Gl X "len") (hm : X.mg "len" = none) (hg2 : Gl X "set") (hm2 : X.mg "set" = none) (ha : CE X cf a ca) (hs : noStar a = true) :
    CE X cf (.Call (.Name "len" p) [.Call (.Name "set" p2) [a] [] q] [] pos) (.bi (.set false) (.cons ca .nil)) := by
  have h1 : PA X [a] (TrAs cf X.K X.mg (.cons ca .nil)) := pas_cons ha pas_nil (star_cons hs)
  have h2 := pe_callTy (p := p2) (pos := q) (cr_setI (X := X) hc) hg2 hm2 boot_set h1 (he := star_cons hs)
  have h3 := pe_callB (p := p) (pos := pos) (cr_lenS (X := X)) hg hm boot_len (pa_cons h2 pa_nil (star_cons rfl)) (he := star_cons rfl)
  refine CE.of (h3.evI fun σ H Q z => ?_) fun _ => rfl
  obtain ⟨r, v, M, d, M', F, e, P⟩ := z
  obtain ⟨as, N1, g1, e1⟩ := bnd_eq e
  refine ⟨r, v, M, as, N1, F, g1, fun r' H' xs R n q => ?_⟩
  have e4 : un1 biLenSet as N1 = some (d, M') := e1
  obtain ⟨x, rfl, e5⟩ := un1_eq e4
  obtain ⟨y, rfl, qa⟩ := q.one
  unfold biLenSet at e5
  split at e5
  · rename_i ds hds
    split at e5
    · rename_i is his
      split at e5
      · rename_i hl
        obtain ⟨rfl, rfl⟩ := Prod.mk.inj (Option.some.inj e5)
        obtain ⟨p, rfl, hp⟩ := set_ints R qa hds his
        refine ⟨p, is, rfl, hp, hl, fun u hu => ?_⟩
        have n2 := Nx.upd (o := SetO X.w u (fun j => decide (j ∈ is)) (nubI is).length) R hu
        exact ⟨u, _, _, rfl, upd_same, Nat.le_trans (nub_len is) hl, (P.nx F.1 R n) r' _ _ (R.upd (R.off hu) n2) n2 rfl⟩
      · cases e5
    · cases e5
  · cases e5
end
end Ev
namespace Ev
open PySem PySem.W L2 PyProof.Rows
/-! ### list(range(..)) -/
section
variable [Tab] {X : Cx} {cf : Cf} {a b : Expr} {ca cb : E} {p p2 q pos : Pos}
theorem rg_vals {K : Frg} {r : List Addr} {H : Hp} (i j : Int) : RVs K r H (rangeD i j) (rgV i j) := by
  unfold rangeD rgV
  induction List.range (j - i).toNat with
  | nil => rfl
  | cons x xs ih => exact ⟨_, _, rfl, rfl, ih⟩
theorem lrng_fin {K : Frg} {mg : Str → Option Value} {r : List Addr} {H : Hp} {M : Mem} {i j : Int} {Q : V → Hp → Prop} (R : Rel K mg r H M) (h : j - i ≤ (line : Nat)) (P : PoA K mg r H (.l (rangeD i j)) M Q) (u : Addr) (hu : H u = none) : Q (.ref u) (upd H u (.lst (rgV i j))) := by
  have n2 := Nx.upd (o := .lst (rgV i j)) R hu
  exact P r _ _ (R.upd (R.off hu) n2) n2 ⟨u, _, rfl, hu, R.off hu, upd_same, by rw [rangeD_length]; exact line_toNat h, rg_vals i j⟩
theorem lrng_ok {i j : Int} (hc : -(2 ^ 60) ≤ i ∧ i < 2 ^ 60 ∧ -(2 ^ 60) ≤ j ∧ j < 2 ^ 60 ∧ j - i ≤ (line : Nat)) : RgOk i j := by
  obtain ⟨c1, c2, c3, c4, c5⟩ := hc
  have hline : line = 16000000 := rfl
  have := rng_pow ⟨c1, c2⟩
  have := rng_pow ⟨c3, c4⟩
  exact ⟨by omega, by omega, by omega, by omega, by omega⟩
theorem ce_lrng1 (hc : X.calm = true) (hg : Gl X "list") (hm : X.mg "list" = none) (hg2 : Gl X "range") (hm2 : X.mg "range" = none) (hb : CE X cf b cb) (hs : noStar b = true) :
    CE X cf (.Call (.Name "list" p) [.Call (.Name "range" p2) [b] [] q] [] pos) (.bi (.dict false) (.cons (.cst (.int 0)) (.cons cb .nil))) := by
  refine CE.of ((pe_listRg hc hg hm (prg_1 hg2 hm2 hb.pe (star_cons hs)) (star_cons rfl)).evI fun σ H Q z => ?_) fun _ => rfl
  obtain ⟨r, v, M, d, M', F, e, P⟩ := z
  obtain ⟨as, N1, g1, e1⟩ := bnd_eq e
  obtain ⟨x, N2, g2, e2⟩ := bnd_eq g1
  obtain ⟨rfl, rfl⟩ := Prod.mk.inj (Option.some.inj g2)
  obtain ⟨ys, N3, g3, e3⟩ := bnd_eq e2
  obtain ⟨rfl, rfl⟩ := Prod.mk.inj (Option.some.inj e3)
  obtain ⟨y, N4, g4, e4⟩ := bnd_eq g3
  obtain ⟨zs, N5, g5, e5⟩ := bnd_eq e4
  obtain ⟨rfl, rfl⟩ := Prod.mk.inj (Option.some.inj g5)
  obtain ⟨rfl, rfl⟩ := Prod.mk.inj (Option.some.inj e5)
  have e6 : biLRng (.v (.int 0)) y N4 = some (d, M') := e1
  refine ⟨r, v, M, y, N4, F, g4, fun r1 H1 x1 R1 n1 q1 => ?_⟩
  unfold biLRng at e6
  split at e6
  · rename_i i j hi
    cases hi
    split at e6
    · rename_i hcc
      obtain ⟨rfl, rfl⟩ := Prod.mk.inj (Option.some.inj e6)
      cases q1
      exact ⟨j, rfl, lrng_ok hcc, lrng_fin R1 hcc.2.2.2.2 (P.nx F.1 R1 n1)⟩
    · cases e6
  · cases e6
theorem ce_lrng2 (hc : X.calm = true) (hg : Gl X "list") (hm : X.mg "list" = none) (hg2 : Gl X "range") (hm2 : X.mg "range" = none) (ha : CE X cf a ca) (hb : CE X cf b cb) (hs : noStar a = true) (hs2 : noStar b = true) :
    CE X cf (.Call (.Name "list" p) [.Call (.Name "range" p2) [a, b] [] q] [] pos) (.bi (.dict false) (.cons ca (.cons cb .nil))) := by
  refine CE.of ((pe_listRg hc hg hm (prg_2 hg2 hm2 ha.pe hb.pe (star_cons hs) (star_cons hs2) (star_plain (by simp [hs2]))) (star_cons rfl)).evI fun σ H Q z => ?_) fun _ => rfl
  obtain ⟨r, v, M, d, M', F, e, P⟩ := z
  obtain ⟨as, N1, g1, e1⟩ := bnd_eq e
  obtain ⟨x, N2, g2, e2⟩ := bnd_eq g1
  obtain ⟨ys, N3, g3, e3⟩ := bnd_eq e2
  obtain ⟨rfl, rfl⟩ := Prod.mk.inj (Option.some.inj e3)
  obtain ⟨y, N4, g4, e4⟩ := bnd_eq g3
  obtain ⟨zs, N5, g5, e5⟩ := bnd_eq e4
  obtain ⟨rfl, rfl⟩ := Prod.mk.inj (Option.some.inj g5)
  obtain ⟨rfl, rfl⟩ := Prod.mk.inj (Option.some.inj e5)
  have e6 : biLRng x y N4 = some (d, M') := e1
  refine ⟨r, v, M, x, N2, F, g2, fun r1 H1 x1 R1 n1 q1 => ⟨r1, v, N2, y, N4, F.nx R1 n1, g4, fun r2 H2 x2 R2 n2 q2 => ?_⟩⟩
  unfold biLRng at e6
  split at e6
  · rename_i i j
    split at e6
    · rename_i hcc
      obtain ⟨rfl, rfl⟩ := Prod.mk.inj (Option.some.inj e6)
      cases q1
      cases q2
      exact ⟨i, j, rfl, rfl, lrng_ok hcc, lrng_fin R2 hcc.2.2.2.2 ((P.nx F.1 R1 n1).nx R1 R2 n2)⟩
    · cases e6
  · cases e6
end
end Ev
namespace Ev
open PySem PySem.W L2 PyProof.Rows
/-! ### l.extend(t) of a tuple -/
open PySem.AutoSeq1 in
theorem ext_tup (l : Addr) (xs : Array Value) (n : Nat) (b : Addr) (ys : Array Value) (m : Nat) (dd : Option Addr) (sl : Array (Option Value)) (h0 : ¬(!xs.isEmpty && Builtin.List.listTooLong (xs.size + ys.size)) = true) (h1 : xs.size ≤ sizeLine) (h2 : xs.size + ys.size ≤ sizeLine + 1) :
    Meets (Builtin.«list.extend» ⟨[.ref l, .ref b], []⟩) (fun _ R s => s.heap.get? l = some { cls := .type "list", dict := none, data := .seq xs n, slots := #[] } ∧ s.heap.get? b = some { cls := .type "tuple", dict := dd, data := .seq ys m, slots := sl } ∧
      R (.ok (.ret Value.none)) { s with heap := s.heap.update l (Obj.mapSeq fun x => x ++ ys), toks := s.toks }) :=
  .of_wp fun prog w A R s h => by
    rcases s with ⟨hp, g, d, tk, os⟩
    rcases h with ⟨ha, hc, hr⟩
    have k1 := idx_int
    have k2 := AutoSeq1.sub_tuple_tuple
    have k3 := AutoSeq1.sub_list_list
    have k4 := AutoSeq1.sub_tuple_list
    have k5 := AutoSeq1.sub_list_tuple
    have hz : (xs ++ ys).size ≤ sizeLine + 1 := by
      rw [Array.size_append]
      exact h2
    wp_walk using (wpAny_updateSeq ha rfl (hz := h1) (_hz' := hz)), wpAny_loadPart' ha, wpAny_loadPart' hc
    exact ⟨_, rfl, hr⟩
section
variable {X : Cx}
def rExtT (K : PySem.W.Frag) : V → List V → Hp → VK → Prop := fun x vs H Q => ∃ l b xs zs, x = .ref l ∧ vs = [.ref b] ∧ H l = some (.lst xs) ∧ SqT K H b zs ∧ xs.length + zs.length ≤ sizeLine ∧ Q .non (upd H l (.lst (xs ++ zs)))
theorem mt_extT : MtM X "list.extend" (rExtT X.K) := by
  intro pins s σ H x vs v us Q I rx rv h
  obtain ⟨l, b, xs, zs, rfl, rfl, hH, hB, hz, q⟩ := h
  cases rx
  obtain ⟨u, rfl, ru⟩ := rv.one
  cases ru
  obtain ⟨z, its, n, r, hl, e⟩ := I.lstM hH
  obtain ⟨its2, r2, ⟨o, e2, hc, n2, hd⟩, z2⟩ := I.tuple hB
  obtain ⟨cls, dd, data, sl⟩ := o
  simp only at hc hd
  subst hc hd
  have hl2 := r2.length
  have hsz : its.toArray.size + its2.toArray.size ≤ sizeLine := by rw [List.size_toArray, List.size_toArray]; omega
  have hlong : ¬ (!its.toArray.isEmpty && Builtin.List.listTooLong (its.toArray.size + its2.toArray.size)) = true := by
    rw [notLongL hsz, Bool.and_false]
    exact Bool.false_ne_true
  refine call_meets F.slot_list_extend ⟨_, e, rfl⟩ F.entry_list_extend (F.args_list_extend_2 _ _)
    (ext_tup l its.toArray n b its2.toArray n2 dd sl hlong (by rw [List.size_toArray]; omega) (by omega)) ⟨e, e2, ?_⟩
  refine ⟨.non, _, I.lset (its' := its ++ its2) hH e (by simp) (r.append r2) ?_, rfl, q⟩
  rw [List.length_append]
  omega
end
end Ev
namespace Ev
open PySem PySem.W L2 PyProof.Rows
/-! ### more methods of lists -/
section
variable [Tab] {X : Cx} {cf : Cf} {e a b c o : Expr} {ca cb cc co ce : E} {pos p : Pos} {es : List Expr} {ces : Es} {apos : Pos}
theorem pe_lm {b : BM} {y : Str} {id : String} {rl : V → List V → Hp → VK → Prop} (hslot : Slot "list" y id) (hty : typeOf (.builtin id) = pure (.type "method_descriptor")) (hm : MtR X id rl)
    (hk : ∀ n u as M z, bmA n u b as M = some z → ∃ ds, u = .lst ds)
    (use : ∀ (r2 : List Addr) (H0 H2 : Hp) (N2 : Mem) (n : Nat) (q : Addr) (ds : List D) (vs : List V) (as : List A) (xs : List V) (d : A) (M3 : Mem) (Q : V → Hp → Prop), Rel X.K X.mg r2 H2 N2 → r2[n]? = some q → N2[n]? = some (.lst ds) → H2 q = some (.lst vs) → ds.length ≤ sizeLine → RVs X.K r2 H2 ds vs → RAs X.K H0 r2 H2 as xs → bmA n (.lst ds) b as N2 = some (d, M3) → PoA X.K X.mg r2 H2 d M3 Q → rl (.ref q) xs H2 Q)
    (ha : CE X cf o co) (h : PA X (e :: es) (TrAs cf X.K X.mg ces)) (hb : okBase o = true) (hs : (e :: es).all noStar = true) (hl : (e :: es).length < 30) (hline : (apos.endLine == pos.line) = true) :
    PE X (.Call (.Attribute o y apos) (e :: es) [] pos) (tBlt X cf co b ces) := by
  have hs' := hs
  rw [List.all_cons, Bool.and_eq_true] at hs'
  refine (pe_bm PySem.F.plainAttrs_list hslot hty hm ha.pe h (base_ok hb) (meth_few hs hl) hline (star_cons hs'.1) (star_plain hs'.2)).evI fun σ H Q z => ?_
  obtain ⟨r, v, M, n, u, N1, as, N2, u2, d, M3, F, g1, hu, hni, g2, hu2, hkd, e, P⟩ := z
  obtain ⟨ds, rfl⟩ := hk _ _ _ _ _ e
  cases u with
  | lst ds0 =>
    refine ⟨r, v, M, _, N1, F, g1, fun r1 H1 x1 R1 n1 q1 => ?_⟩
    obtain ⟨q, rfl, hq⟩ := q1
    obtain ⟨q', hq', vs0, h1, _, _⟩ := R1.at hu
    rw [hq] at hq'
    cases hq'
    refine ⟨.inl ⟨rfl, vs0, SqL.of h1⟩, r1, v, N1, as, N2, F.nx R1 n1, g2, fun r2 H2 x2 R2 n2 q2 => ?_⟩
    obtain ⟨q', hq', vs, h2, l2, s2⟩ := R2.at hu2
    rw [n2.get hq] at hq'
    cases hq'
    exact use r2 _ H2 N2 n q ds vs as x2 d M3 Q R2 (n2.get hq) hu2 h2 l2 s2 q2 e ((P.nx F.1 R1 n1).nx R1 R2 n2)
  | dic t _ => cases t <;> cases hkd
  | ins _ _ => cases hkd
  | set t _ => cases t <;> cases hkd
theorem RVs.ints {K : Frg} {r : List Addr} {H : Hp} : ∀ {ds : List D} {vs : List V} {is : List Int}, RVs K r H ds vs → intsOf ds = some is → vs = is.map V.int
  | [], _, _, h, e => by cases h; cases e; rfl
  | .int i :: ds, _, is, ⟨v, ws, e1, h, hs⟩, e => by
    unfold intsOf at e
    obtain ⟨js, e2, e3⟩ := Option.map_eq_some_iff.mp e
    subst e3
    have h : v = .int i := h
    rw [e1, h, RVs.ints hs e2]
    rfl
  | .non :: _, _, _, _, e => nomatch e
  | .bl _ :: _, _, _, _, e => nomatch e
  | .str _ :: _, _, _, _, e => nomatch e
  | .tup _ :: _, _, _, _, e => nomatch e
  | .fz _ :: _, _, _, _, e => nomatch e
  | .xt _ :: _, _, _, _, e => nomatch e
  | .ref _ :: _, _, _, _, e => nomatch e
theorem RVs.ofInts {K : Frg} {r : List Addr} {H : Hp} : ∀ is : List Int, RVs K r H (is.map D.int) (is.map V.int)
  | [] => rfl
  | i :: is => ⟨.int i, is.map V.int, rfl, rfl, RVs.ofInts is⟩
theorem mt_extB : MtR X "list.extend" (fun x vs H Q => rExtend x vs H Q ∨ rExtT X.K x vs H Q) := fun pins s σ H x xs v us Q I r1 r2 z => z.elim (mt_extend pins s σ H x xs v us Q I r1 r2) (mt_extT pins s σ H x xs v us Q I r1 r2)
theorem pe_extend' (ha : CE X cf o co) (h : PA X (e :: es) (TrAs cf X.K X.mg ces)) (hb : okBase o = true) (hs : (e :: es).all noStar = true) (hl : (e :: es).length < 30) (hline : (apos.endLine == pos.line) = true) :
    PE X (.Call (.Attribute o "extend" apos) (e :: es) [] pos) (tBlt X cf co .extend ces) := by
  refine pe_lm PySem.F.slot_list_extend PySem.F.type_list_extend mt_extB (fun n u as M z e => ?_) (fun r2 H0 H2 N2 n q ds vs as xs d M3 Q R2 hq hn h2 hl2 s2 q2 e P => ?_) ha h hb hs hl hline
  · cases u with
    | lst ds => exact ⟨ds, rfl⟩
    | dic _ _ => cases e
    | ins _ _ => cases e
    | set _ _ => cases e
  · replace e : bmExtend n ds as N2 = some (d, M3) := e
    have n3 : ∀ w : List V, Nx r2 H2 r2 (L2.upd H2 q (.lst w)) := fun w => Nx.put hq
    have fin : ∀ (es : List D) (w : List V), ds.length + es.length ≤ line → RVs X.K r2 H2 es w → d = .v .non → M3 = N2.set n (.lst (ds ++ es)) → Q .non (L2.upd H2 q (.lst (vs ++ w))) := fun es w hle sw hd hM => by
      subst hd hM
      exact P r2 _ _ (R2.put hq ⟨_, upd_same, by rw [List.length_append]; exact Nat.le_of_lt (Nat.lt_of_le_of_lt hle line_lt), (s2.append sw).nx R2 (n3 _)⟩) (n3 _) rfl
    have lens : ∀ (es : List D) (w : List V), ds.length + es.length ≤ line → RVs X.K r2 H2 es w → vs.length + w.length ≤ sizeLine := fun es w hle sw => by
      rw [← s2.length, ← sw.length]
      exact Nat.le_of_lt (Nat.lt_of_le_of_lt hle line_lt)
    unfold bmExtend at e
    split at e
    · rename_i xs'
      split at e
      · rename_i hle
        obtain ⟨rfl, rfl⟩ := Prod.mk.inj (Option.some.inj e)
        obtain ⟨y, rfl, hy⟩ := q2.one
        obtain ⟨t, ws, rfl, _, _, ht, _, hts⟩ := hy
        exact .inl ⟨q, t, vs, ws, rfl, rfl, h2, ht, lens xs' ws hle hts, fin xs' ws hle hts rfl rfl⟩
      · cases e
    · rename_i xs'
      split at e
      · rename_i hle
        obtain ⟨rfl, rfl⟩ := Prod.mk.inj (Option.some.inj e)
        obtain ⟨y, rfl, hy⟩ := q2.one
        obtain ⟨t, ws, rfl, ht, _, hts⟩ := hy
        exact .inr ⟨q, t, vs, ws, rfl, rfl, h2, SqT.of ht, lens xs' ws hle hts, fin xs' ws hle hts rfl rfl⟩
      · cases e
    · rename_i m
      split at e
      · rename_i xs' hm
        split at e
        · rename_i hle
          obtain ⟨rfl, rfl⟩ := Prod.mk.inj (Option.some.inj e)
          obtain ⟨y, rfl, hy⟩ := q2.one
          obtain ⟨t, rfl, ht⟩ := hy
          obtain ⟨t', ht', ws, h3, _, hts⟩ := R2.at hm
          rw [ht] at ht'
          cases ht'
          exact .inl ⟨q, t, vs, ws, rfl, rfl, h2, h3, lens xs' ws hle hts, fin xs' ws hle hts rfl rfl⟩
        · cases e
      · cases e
    · cases e
theorem idx_first {k : Int} : ∀ {is : List Int}, k ∈ is → is[is.idxOf k]? = some k ∧ (∀ m, m < is.idxOf k → is[m]? ≠ some k) ∧ is.eraseIdx (is.idxOf k) = is.erase k
  | [], h => nomatch h
  | i :: is, h => by
    by_cases c : i = k
    · subst c
      simp
    · have ih := idx_first (is := is) (by
        rcases List.mem_cons.mp h with e | e
        · exact (c e.symm).elim
        · exact e)
      have e1 : (i :: is).idxOf k = is.idxOf k + 1 := by
        rw [List.idxOf_cons, show (i == k) = false from beq_eq_false_iff_ne.mpr c]
        rfl
      rw [e1]
      refine ⟨by simpa using ih.1, fun m hm => ?_, ?_⟩
      · cases m with
        | zero => simpa using c
        | succ m => simpa using ih.2.1 m (by omega)
      · rw [List.eraseIdx_cons_succ, ih.2.2, List.erase_cons_tail (by simpa using c)]
theorem pe_remove (ha : CE X cf o co) (h : PA X (e :: es) (TrAs cf X.K X.mg ces)) (hb : okBase o = true) (hs : (e :: es).all noStar = true) (hl : (e :: es).length < 30) (hline : (apos.endLine == pos.line) = true) :
    PE X (.Call (.Attribute o "remove" apos) (e :: es) [] pos) (tBlt X cf co .remove ces) := by
  refine pe_lm PySem.F.slot_list_remove PySem.F.type_list_remove mt_remove (fun n u as M z e => ?_) (fun r2 H0 H2 N2 n q ds vs as xs d M3 Q R2 hq hn h2 hl2 s2 q2 e P => ?_) ha h hb hs hl hline
  · cases u with
    | lst ds => exact ⟨ds, rfl⟩
    | dic _ _ => cases e
    | ins _ _ => cases e
    | set _ _ => cases e
  · replace e : bmRemove n ds as N2 = some (d, M3) := e
    unfold bmRemove at e
    split at e
    · rename_i k
      split at e
      · rename_i is his
        split at e
        · rename_i hmem
          obtain ⟨rfl, rfl⟩ := Prod.mk.inj (Option.some.inj e)
          obtain ⟨y, rfl, hy⟩ := q2.one
          have hy : y = .int k := hy
          subst hy
          have ev := s2.ints his
          subst ev
          obtain ⟨f1, f2, f3⟩ := idx_first hmem
          have n3 : Nx r2 H2 r2 (L2.upd H2 q (.lst ((is.erase k).map V.int))) := Nx.put hq
          have hlen : is.length = ds.length := by have := s2.length; simpa using this.symm
          refine ⟨q, is, k, is.idxOf k, rfl, rfl, h2, f1, f2, ?_⟩
          rw [f3]
          exact P r2 _ _ (R2.put hq ⟨_, upd_same, by rw [List.length_map]; exact Nat.le_trans List.length_erase_le (by omega), RVs.ofInts _⟩) n3 rfl
        · cases e
      · cases e
    · cases e
theorem pe_count (ha : CE X cf o co) (h : PA X (e :: es) (TrAs cf X.K X.mg ces)) (hb : okBase o = true) (hs : (e :: es).all noStar = true) (hl : (e :: es).length < 30) (hline : (apos.endLine == pos.line) = true) :
    PE X (.Call (.Attribute o "count" apos) (e :: es) [] pos) (tBlt X cf co .count ces) := by
  refine pe_lm PySem.F.slot_list_count PySem.F.type_list_count mt_lcount (fun n u as M z e => ?_) (fun r2 H0 H2 N2 n q ds vs as xs d M3 Q R2 hq hn h2 hl2 s2 q2 e P => ?_) ha h hb hs hl hline
  · cases u with
    | lst ds => exact ⟨ds, rfl⟩
    | dic _ _ => cases e
    | ins _ _ => cases e
    | set _ _ => cases e
  · replace e : bmCount ds as N2 = some (d, M3) := e
    unfold bmCount at e
    split at e
    · rename_i k
      split at e
      · rename_i is his
        obtain ⟨rfl, rfl⟩ := Prod.mk.inj (Option.some.inj e)
        obtain ⟨y, rfl, hy⟩ := q2.one
        have hy : y = .int k := hy
        subst hy
        have ev := s2.ints his
        subst ev
        exact ⟨q, is, k, rfl, rfl, SqL.of h2, P.at R2 rfl⟩
      · cases e
    · cases e
theorem pe_index (hu : X.A.units + 65 < cLine) (ha : CE X cf o co) (h : PA X (e :: es) (TrAs cf X.K X.mg ces)) (hb : okBase o = true) (hs : (e :: es).all noStar = true) (hl : (e :: es).length < 30) (hline : (apos.endLine == pos.line) = true) :
    PE X (.Call (.Attribute o "index" apos) (e :: es) [] pos) (tBlt X cf co .index ces) := by
  refine pe_lm PySem.F.slot_list_index PySem.F.type_list_index (mt_indexD hu) (fun n u as M z e => ?_) (fun r2 H0 H2 N2 n q ds vs as xs d M3 Q R2 hq hn h2 hl2 s2 q2 e P => ?_) ha h hb hs hl hline
  · cases u with
    | lst ds => exact ⟨ds, rfl⟩
    | dic _ _ => cases e
    | ins _ _ => cases e
    | set _ _ => cases e
  · replace e : bmIndex ds as N2 = some (d, M3) := e
    unfold bmIndex at e
    split at e
    · rename_i x
      split at e
      · rename_i dd hdd
        split at e
        · rename_i hok
          obtain ⟨j, hj, e2⟩ := Option.map_eq_some_iff.mp e
          obtain ⟨rfl, rfl⟩ := Prod.mk.inj e2
          obtain ⟨y, rfl, hy⟩ := q2.one
          rw [Bool.and_eq_true, Bool.and_eq_true] at hok
          have dx := RA.dp R2 hy hdd
          have dl : Dp X.K H2 (.ref q) (.list (D.pys ds)) := by
            have rl : RV X.K r2 H2 (.ref n) (.ref q) := ⟨q, rfl, hq⟩
            have pl : pyOf N2 (.v (.ref n)) = some (.list (D.pys ds)) := by
              unfold pyOf
              simp only [hn]
              rw [if_pos hok.1.1]
            exact RA.dp (H0 := H0) R2 (a := .v (.ref n)) rl pl
          obtain ⟨h1, h3, h4⟩ := List.findIdx?_eq_some_iff_getElem.mp hj
          refine ⟨q, y, dd, D.pys ds, j, (D.pys ds)[j], rfl, rfl, dl, dx, hok.1.2, hok.2, List.getElem?_eq_getElem h1, h3, fun m z' hm hz => ?_, P.at R2 rfl⟩
          obtain ⟨hm2, hz2⟩ := List.getElem?_eq_some_iff.mp hz
          have := h4 m hm
          rw [hz2] at this
          simpa using this
        · cases e
      · cases e
    · cases e
theorem pe_popAt (ha : CE X cf o co) (h : PA X (e :: es) (TrAs cf X.K X.mg ces)) (hb : okBase o = true) (hs : (e :: es).all noStar = true) (hl : (e :: es).length < 30) (hline : (apos.endLine == pos.line) = true) :
    PE X (.Call (.Attribute o "pop" apos) (e :: es) [] pos) (tBlt X cf co .popAt ces) := by
  refine pe_lm PySem.F.slot_list_pop PySem.F.type_list_pop mt_popAt (fun n u as M z e => ?_) (fun r2 H0 H2 N2 n q ds vs as xs d M3 Q R2 hq hn h2 hl2 s2 q2 e P => ?_) ha h hb hs hl hline
  · cases u with
    | lst ds => exact ⟨ds, rfl⟩
    | dic _ _ => cases e
    | ins _ _ => cases e
    | set _ _ => cases e
  · replace e : bmPopAt n ds as N2 = some (d, M3) := e
    unfold bmPopAt at e
    split at e
    · split at e
      · rename_i d1 rest
        obtain ⟨rfl, rfl⟩ := Prod.mk.inj (Option.some.inj e)
        obtain ⟨y, rfl, hy⟩ := q2.one
        have hy : y = .int 0 := hy
        subst hy
        obtain ⟨w, ws, rfl, hw, hws⟩ := s2
        have n3 : Nx r2 H2 r2 (L2.upd H2 q (.lst ws)) := Nx.put hq
        refine ⟨q, w :: ws, 0, 0, w, rfl, rfl, h2, by decide, by decide, ?_, rfl, ?_⟩
        · unfold seqIndex?
          simp
        · rw [List.eraseIdx_zero, List.tail_cons]
          exact P r2 _ _ (R2.put hq ⟨_, upd_same, by simp at hl2; omega, RVs.nx R2 n3 hws⟩) n3 (RV.nx R2 n3 hw)
      · cases e
    · cases e
end
end Ev
namespace Ev
open PySem PySem.W L2 PyProof.Rows
/-! ### sorted(set(xs)) of tuples of ints -/
section
variable [Tab] {X : Cx}
theorem intsAre_reads {h : Heap} {us : List Value} {k : List Int} (e : IntsAre us k) : ReadsAll h us (D.pys (k.map D.int)) [] := by
  induction e with
  | nil => exact .nil
  | cons _ _ _ ih => exact .cons (as := []) (bs := []) (.int _ _) ih
theorem isT_reads {P : Program} {w : World} {h : Heap} {k : List Int} {b : Addr} (x : IsT P w h k b) : Reads h (.ref b) (tI0 k).py [] := by
  obtain ⟨o, its, n, ho, hc, hd, hi⟩ := x
  exact .tuple ho hc hd (intsAre_reads (ints_of_items hi))
def rSrtD (K : Frg) (P : Program) (w : World) : List V → Hp → VK → Prop := fun vs H Q => ∃ (a : Addr) (L : List (Addr × List Int)) (r : List Addr), vs = [V.ref a] ∧ H a = some (SetTO P w a L) ∧ (∀ p ∈ L, SqT K H p.1 (p.2.map V.int)) ∧
  (∀ p ∈ L, RV K r H (tI0 p.2) (.ref p.1)) ∧ (∀ L' : List (Addr × List Int), L'.Perm L → sortOk (L'.map fun p => tI0 p.2) = true) ∧
  ∀ (L' : List (Addr × List Int)) q ws, L'.Perm L → (L.map (·.2)).Nodup → H q = none → RVs K r H (sortD (L'.map fun p => tI0 p.2)) ws → Q (.ref q) (L2.upd H q (.lst ws))
theorem cr_srtD (hc : X.calm = true) (hu : X.A.units + 70 < cLine) : CallR X (.builtin "sorted") (rSrtD X.K X.prog X.w) := by
  intro pins s σ H vs us Q I rv h
  obtain ⟨a, L, r, rfl, ha, hk, hr, hok, q⟩ := h
  have R0 : SetT0 X.prog X.w s.heap a L := (I.hok a _ ha).1
  obtain ⟨es, ep, t, R⟩ := R0.full fun p hp => I.isT (hk p hp)
  rw [Vals.ref1 rv]
  obtain ⟨o, ho, hex, hd⟩ := R.ob
  have hsz := R.size
  have hfew := R.few
  refine Calls.call_function_entry PyProof.Rows.kind_sorted PyProof.Rows.plain_sorted PyProof.Rows.entry_sorted (PyProof.Rows.args_sorted1 _) ?_
  unfold Builtin.«sorted»
  refine wpAny_bind (m := checkCount "sorted" 1 1 _) (wpAny_pure ?_)
  refine wpAny_bind (collect_set (A := X.A.in1) (I.ok.hd hc) ⟨o, ho, hex.1, hd⟩ R.fits (by unfold scanBound; omega) R.tab.ris R.led fun s1 vs k1 hz g1 o1 pm => ?_)
  have hes : es.toList.map (·.2) = L.map fun z => Value.ref z.1 := by
    rw [R.rows, L2.rowsOf, List.map_map]
    rfl
  rw [hes] at pm
  obtain ⟨L1, hv1, hs1⟩ : ∃ L1 : List (Addr × List Int), vs = L1.map (fun z => Value.ref z.1) ∧ ∀ z ∈ L1, z ∈ L := by
    have : ∀ ws : List Value, (∀ v ∈ ws, ∃ z ∈ L, v = Value.ref z.1) → ∃ L1 : List (Addr × List Int), ws = L1.map (fun z => Value.ref z.1) ∧ ∀ z ∈ L1, z ∈ L := fun ws => by
      induction ws with
      | nil => exact fun _ => ⟨[], rfl, fun z hz => nomatch hz⟩
      | cons v ws ih =>
        intro hv
        obtain ⟨z, hz, e⟩ := hv v List.mem_cons_self
        obtain ⟨L1, e1, e2⟩ := ih fun u hu => hv u (List.mem_cons_of_mem _ hu)
        exact ⟨z :: L1, by rw [List.map_cons, e, e1], fun y hy => (List.mem_cons.mp hy).elim (fun e => e ▸ hz) (e2 y)⟩
    exact this vs fun v hv => by
      obtain ⟨z, hz, e⟩ := List.mem_map.mp (pm.mem_iff.mp hv)
      exact ⟨z, hz, e.symm⟩
  subst hv1
  have one : ∀ y ∈ L, ∀ z ∈ L, y.1 = z.1 → y = z := fun y hy z hz e => by
    have a1 := R.tup y hy
    rw [e] at a1
    exact Prod.ext e (a1.inj (R.tup z hz))
  have nL : L.Nodup := L2.nodup_of_map R.nd
  have nref : (L.map fun z => Value.ref z.1).Nodup := List.pairwise_map.mpr (List.Pairwise.imp_of_mem (fun {y z} hy hz hne e => hne (one y hy z hz (Value.ref.inj e))) nL)
  have n1 : L1.Nodup := L2.nodup_of_map (pm.nodup_iff.mpr nref)
  have pL : L1.Perm L := (List.perm_ext_iff_of_nodup n1 nL).mpr fun z => ⟨hs1 z, fun hz => by
    obtain ⟨y, hy, e⟩ := List.mem_map.mp (pm.mem_iff.mpr (List.mem_map.mpr ⟨z, hz, rfl⟩))
    rw [← one y (hs1 y hy) z hz (Value.ref.inj e)]
    exact hy⟩
  have hul : L1.length < 64 := by rw [pL.length_eq]; exact hfew
  obtain ⟨k1', k2, k3, k4⟩ := sortOk_use (hok L1 pL)
  have hline : (64 : Nat) ≤ sizeLine := by decide
  refine wpAny_bind (wpAny_newList ?_ (by rw [List.length_map]; omega))
  have hoL : (s1.heap.push (seqObj "list" (L1.map fun z => Value.ref z.1).toArray 0)).get? s1.heap.objs.size = some (seqObj "list" (L1.map fun z => Value.ref z.1).toArray 0) := Heap.get?_push_size _ rfl
  have each : ∀ {F : Value → D → Prop} (l : List (Addr × List Int)), (∀ z ∈ l, F (.ref z.1) (tI0 z.2)) → EachIs F (l.map fun z => Value.ref z.1) (l.map fun z => tI0 z.2) := fun {F} l => by
    induction l with
    | nil => exact fun _ => .nil
    | cons z l ih => exact fun h => .cons (h z List.mem_cons_self) (ih fun y hy => h y (List.mem_cons_of_mem _ hy))
  refine wpAny_bind (wpAny_holding (list_sort_data (s := { s1 with heap := s1.heap.push (seqObj "list" (L1.map fun z => Value.ref z.1).toArray 0) }) (R := fun u d => ∃ x, RV X.K r H d x ∧ RelV x u) (enc := D.py) (bs := L1.map fun z => tI0 z.2) hoL
    (each L1 fun z hz => ⟨.ref z.1, hr z (hs1 z hz), rfl⟩)
    (each L1 fun z hz => ⟨[], isT_reads (isT_keep (R.tup z (hs1 z hz)) fun b u e => Heap.get?_push_of_some _ (k1 b u e)), fun hm => nomatch hm⟩) k2 k3 (by rw [List.length_map]; omega) (fun d hd => ?_) fun out ho2 eo => ?_))
  · have := k4 d hd
    show X.A.units + 1 + 1 + d.py.depth < cLine
    omega
  · obtain ⟨ws, h1, h2⟩ := out_rvs eo
    obtain ⟨c, he'⟩ := PyProof.Rows.sortedHeap_at (vs := L1.map fun z => Value.ref z.1) (out := List.toArray out) hoL
    have hle : ws.length ≤ sizeLine := by rw [h2.length, ho2, List.length_map]; omega
    have hn : H s1.heap.objs.size = none := I.hok.fresh hz
    have kk : ∀ b u, s.heap.get? b = some u → (sortedHeap (s1.heap.push (seqObj "list" (L1.map fun z => Value.ref z.1).toArray 0)) s1.heap.objs.size (L1.map fun z => Value.ref z.1) (List.toArray out)).get? b = some u := fun b u e => by
      have q1 := k1 b u e
      have hlt := Heap.lt_size q1
      rw [PyProof.Rows.sortedHeap_old (Nat.ne_of_lt hlt) (by rw [size_push']; exact Nat.lt_succ_of_lt hlt)]
      exact Heap.get?_push_of_some _ q1
    have J : Inv X pins σ (L2.upd H s1.heap.objs.size (.lst ws)) { s with heap := sortedHeap (s1.heap.push (seqObj "list" (L1.map fun z => Value.ref z.1).toArray 0)) s1.heap.objs.size (L1.map fun z => Value.ref z.1) (List.toArray out), gens := s1.gens, drawn := s1.drawn, toks := s1.toks } :=
      I.call (ch := []) (Un.laid kk hz hn) (I.hok.laid kk hz ⟨hle, out, c, h2, he'⟩) (by rw [g1]; exact I.bare) (fun _ z => nomatch z)
    have e : ({ s1 with heap := sortedHeap (s1.heap.push (seqObj "list" (L1.map fun z => Value.ref z.1).toArray 0)) s1.heap.objs.size (L1.map fun z => Value.ref z.1) (List.toArray out) } : Shared) = { s with heap := sortedHeap (s1.heap.push (seqObj "list" (L1.map fun z => Value.ref z.1).toArray 0)) s1.heap.objs.size (L1.map fun z => Value.ref z.1) (List.toArray out), gens := s1.gens, drawn := s1.drawn, toks := s1.toks } := by
      cases s1
      cases s
      cases o1
      rfl
    refine wpAny_pure ⟨_, rfl, ?_⟩
    rw [e]
    exact ⟨.ref s1.heap.objs.size, _, J, rfl, q L1 s1.heap.objs.size ws pL R.nd hn h1⟩
end
end Ev
namespace Ev
open PySem PySem.W L2 PyProof.Rows
theorem nubR_mem (z : List Int) : ∀ xs : List (List Int), z ∈ nubR xs ↔ z ∈ xs
  | [] => Iff.rfl
  | x :: xs => by
    unfold nubR
    have ih := nubR_mem z xs
    split
    · rename_i h
      rw [ih, List.mem_cons]
      exact ⟨.inr, fun q => q.elim (fun e => e ▸ h) id⟩
    · rw [List.mem_cons, List.mem_cons, ih]
theorem nubR_nodup : ∀ xs : List (List Int), (nubR xs).Nodup
  | [] => List.nodup_nil
  | x :: xs => by
    unfold nubR
    split
    · exact nubR_nodup xs
    · rename_i h
      exact List.nodup_cons.mpr ⟨fun q => h ((nubR_mem x xs).mp q), nubR_nodup xs⟩
theorem nubR_len : ∀ xs : List (List Int), (nubR xs).length ≤ xs.length
  | [] => Nat.le_refl _
  | x :: xs => by
    unfold nubR
    have := nubR_len xs
    split <;> simp only [List.length_cons] <;> omega
theorem tI0_alikes : ∀ {a b : List Int}, a.length = b.length → PySem.W.alikeAll (D.pys (a.map D.int)) (D.pys (b.map D.int)) = true
  | [], [], _ => by simp [D.pys, PySem.W.alikeAll]
  | x :: a, y :: b, h => by
    have ih := tI0_alikes (a := a) (b := b) (by simpa using h)
    simp [D.pys, D.py, PySem.W.alikeAll, PySem.W.alike, ih]
  | [], _ :: _, h => by simp at h
  | _ :: _, [], h => by simp at h
theorem tI0_alike {a b : List Int} (h : a.length = b.length) : PySem.W.alike (tI0 a).py (tI0 b).py = true := by
  have := tI0_alikes h
  unfold tI0
  rw [D.py, D.py]
  simpa [PySem.W.alike] using this
theorem ints_pures : ∀ l : List Int, D.pures (l.map D.int) = true
  | [] => rfl
  | i :: l => by rw [List.map_cons, D.pures, ints_pures l]; rfl
theorem ints_depth : ∀ l : List Int, PyData.depthAll (D.pys (l.map D.int)) ≤ 1
  | [] => by simp [D.pys, PyData.depthAll]
  | i :: l => by
    have := ints_depth l
    rw [List.map_cons, D.pys, PyData.depthAll, D.py, PyData.depth]
    omega
theorem sortOk_rows [Tab] {l : List (List Int)} {n : Nat} (h : ∀ r ∈ l, r.length = n) (hn : 0 < n) : sortOk (l.map tI0) = true := by
  have e1 : D.pures (l.map tI0) = true := by
    clear h
    induction l with
    | nil => rfl
    | cons r l ih => rw [List.map_cons, D.pures, ih, Bool.and_true]; exact ints_pures r
  have e2 : ∀ l : List (List Int), D.pys (l.map tI0) = l.map fun r => (tI0 r).py := fun l => by
    induction l with
    | nil => rfl
    | cons r l ih => rw [List.map_cons, D.pys, ih]; rfl
  have e3 : alikes (l.map fun r => (tI0 r).py) = true := by
    induction l with
    | nil => rfl
    | cons r l ih =>
      have hr := h r List.mem_cons_self
      rw [List.map_cons, alikes, ih (fun q hq => h q (List.mem_cons_of_mem _ hq)) (by
        rw [List.map_cons, D.pures, Bool.and_eq_true] at e1
        exact e1.2), Bool.and_true, Bool.and_eq_true, List.all_eq_true]
      refine ⟨fun z hz => ?_, tI0_alike rfl⟩
      obtain ⟨q, hq, rfl⟩ := List.mem_map.mp hz
      have hq := h q (List.mem_cons_of_mem _ hq)
      rw [tI0_alike (by omega), tI0_alike (by omega)]
      rfl
  unfold sortOk
  rw [e1, e2, e3, Bool.true_and, Bool.true_and, Bool.and_eq_true, Bool.or_eq_true]
  refine ⟨.inl (List.all_eq_true.mpr fun z hz => ?_), List.all_eq_true.mpr fun z hz => ?_⟩
  · obtain ⟨r, hr, rfl⟩ := List.mem_map.mp hz
    have := h r hr
    cases r with
    | nil => simp at this; omega
    | cons i r => rfl
  · obtain ⟨r, hr, rfl⟩ := List.mem_map.mp hz
    have := ints_depth r
    refine decide_eq_true ?_
    unfold tI0
    rw [D.py, PyData.depth]
    omega
theorem tI0_toksAll : ∀ {a b : List Int}, keyToksAll (D.pys (a.map D.int)) = keyToksAll (D.pys (b.map D.int)) → a = b
  | [], [], _ => rfl
  | x :: a, y :: b, h => by
    simp [D.pys, D.py, keyToks, keyToksAll] at h
    rw [h.1, tI0_toksAll (a := a) (b := b) (by simpa [D.pys] using h.2)]
  | [], y :: b, h => by simp [D.pys, D.py, keyToks, keyToksAll] at h
  | x :: a, [], h => by simp [D.pys, D.py, keyToks, keyToksAll] at h
theorem tI0_toks {a b : List Int} (h : keyToks (tI0 a).py = keyToks (tI0 b).py) : a = b := by
  unfold tI0 at h
  rw [D.py, D.py, keyToks, keyToks] at h
  exact tI0_toksAll (by simpa using h)
theorem sortD_perm0 {l m : List D} (p : l.Perm m) (h : ∀ a b, a ∈ l → b ∈ l → keyToks a.py = keyToks b.py → a = b) : sortD l = sortD m := by
  have T := sortLe_total (PyProof.Rows.listOrd PyProof.Rows.itemOrd) false (fun d : D => keyToks d.py)
  have s : ∀ ms : List D, (sortD ms).Pairwise fun a b => dataLe false D.py a b = true := fun ms =>
    List.pairwise_mergeSort (le := dataLe false D.py) (fun a b c h1 h2 => T.trans a b c h1 h2) (fun a b => by rw [Bool.or_eq_true]; exact T.total a b) ms
  refine List.Perm.eq_of_pairwise (le := fun a b : D => dataLe false D.py a b = true) (fun a b ha hb h1 h2 => ?_) (s l) (s m) ?_
  · have h1' : (!(PyProof.Rows.listOrd PyProof.Rows.itemOrd).blt (keyToks b.py) (keyToks a.py)) = true := h1
    have h2' : (!(PyProof.Rows.listOrd PyProof.Rows.itemOrd).blt (keyToks a.py) (keyToks b.py)) = true := h2
    rw [Bool.not_eq_true'] at h1' h2'
    exact h a b ((List.mergeSort_perm l _).mem_iff.mp ha) (p.mem_iff.mpr ((List.mergeSort_perm m _).mem_iff.mp hb)) ((PyProof.Rows.listOrd PyProof.Rows.itemOrd).total _ _ h2' h1')
  · exact (List.mergeSort_perm l _).trans (p.trans (List.mergeSort_perm m _).symm)
theorem sortD_rows {l m : List (List Int)} (p : l.Perm m) : sortD (l.map tI0) = sortD (m.map tI0) :=
  sortD_perm0 (p.map tI0) fun a b ha hb e => by
    obtain ⟨x, _, rfl⟩ := List.mem_map.mp ha
    obtain ⟨y, _, rfl⟩ := List.mem_map.mp hb
    rw [tI0_toks e]
theorem eqLen_of {rows : List (List Int)} (h : eqLen rows = true) : ∃ n, 0 < n ∧ ∀ r ∈ rows, r.length = n := by
  cases rows with
  | nil => exact ⟨1, by omega, fun r hr => nomatch hr⟩
  | cons r rs =>
    unfold eqLen at h
    rw [Bool.and_eq_true, decide_eq_true_eq, List.all_eq_true] at h
    exact ⟨r.length, h.1, fun q hq => (List.mem_cons.mp hq).elim (fun e => by rw [e]) fun hq => of_decide_eq_true (h.2 q hq)⟩
section
variable [Tab] {X : Cx} {cf : Cf}
theorem rows_refs {K : Frg} {r : List Addr} {H : Hp} : ∀ {ds : List D} {vs : List V} {rows : List (List Int)}, RVs K r H ds vs → rowsI ds = some rows →
    ∃ ks : List (Addr × List Int), vs = ks.map (fun z => V.ref z.1) ∧ ks.map (·.2) = rows ∧ ∀ z ∈ ks, SqT K H z.1 (z.2.map V.int) ∧ RV K r H (tI0 z.2) (.ref z.1)
  | [], _, rows, h, e => by
    cases h
    cases e
    exact ⟨[], rfl, rfl, fun z hz => nomatch hz⟩
  | d :: ds, _, rows, ⟨v, ws, e0, h, hs⟩, e => by
    unfold rowsI at e
    split at e
    · rename_i q qs h1 h2
      cases e
      obtain ⟨ks, e1, e2, e3⟩ := rows_refs hs h2
      unfold rowI at h1
      split at h1
      · rename_i es
        obtain ⟨a, us, rfl, k1, k2, k3⟩ := h
        have k4 := ints_rv h1 k3
        subst k4
        refine ⟨(a, q) :: ks, by rw [e0, e1]; rfl, by rw [List.map_cons, e2], fun z hz => ?_⟩
        rcases List.mem_cons.mp hz with rfl | hz
        · exact ⟨SqT.of k1, a, q.map V.int, rfl, k1, by
            have := k3.length
            rw [List.length_map] at this
            show (q.map D.int).length ≤ sizeLine
            rw [List.length_map]
            omega, ints_RVs q⟩
        · exact e3 z hz
      · cases h1
    · cases e
theorem ce_srtset {a : Expr} {ca : E} {p p2 q pos : Pos} (hc : X.calm = true) (hu : X.A.units + 70 < cLine) (hg : Gl X "sorted") (hm : X.mg "sorted" = none) (hg2 : Gl X "set") (hm2 : X.mg "set" = none) (ha : CE X cf a ca) (hs : noStar a = true) :
    CE X cf (.Call (.Name "sorted" p) [.Call (.Name "set" p2) [a] [] q] [] pos) (.bi (.set true) (.cons ca .nil)) := by
  have h1 : PA X [a] (TrAs cf X.K X.mg (.cons ca .nil)) := pas_cons ha pas_nil (star_cons hs)
  have h2 := pe_callTy (p := p2) (pos := q) ((cr_setI (X := X) hc).or (cr_setOfT (X := X) hc (by omega))) hg2 hm2 boot_set h1 (he := star_cons hs)
  have h3 := pe_callB (p := p) (pos := pos) ((cr_sortedSet (X := X) hc).or (cr_srtD (X := X) hc hu)) hg hm boot_sorted (pa_cons h2 pa_nil (star_cons rfl)) (he := star_cons rfl)
  refine CE.of (h3.evI fun σ H Q z => ?_) fun _ => rfl
  obtain ⟨r, v, M, d, M', F, e, P⟩ := z
  obtain ⟨as, N1, g1, e1⟩ := bnd_eq e
  refine ⟨r, v, M, as, N1, F, g1, fun r' H' xs R n q => ?_⟩
  have e4 : un1 biSrtSet as N1 = some (d, M') := e1
  obtain ⟨x, rfl, e5⟩ := un1_eq e4
  obtain ⟨y, rfl, qa⟩ := q.one
  unfold biSrtSet at e5
  split at e5
  · rename_i ds hds
    split at e5
    · rename_i is his
      split at e5
      · rename_i hl
        obtain ⟨rfl, rfl⟩ := Prod.mk.inj (Option.some.inj e5)
        obtain ⟨p, rfl, hp⟩ := set_ints R qa hds his
        refine .inl ⟨p, is, rfl, hp, hl.1, fun u hu => ?_⟩
        have n2 := Nx.upd (o := SetO X.w u (fun j => decide (j ∈ is)) (nubI is).length) R hu
        have R2 := R.upd (R.off hu) n2
        refine .inl ⟨u, _, _, rfl, upd_same, hl.2, fun ns p' hlt hmem hlen hp' => ?_⟩
        have he : ns = srtI (nubI is) := srt_eq hlt fun z => by rw [hmem z, decide_eq_true_eq]
        subst he
        have n3 := Nx.upd (o := .lst ((srtI (nubI is)).map V.int)) R2 hp'
        exact ((P.nx F.1 R n).nx R R2 n2) r' _ _ (R2.upd (R2.off hp') n3) n3 ⟨p', _, rfl, hp', R2.off hp', upd_same, by rw [List.length_map, hlen, sizeLine_eq]; have := hl.2; omega, ints_RVs _⟩
      · cases e5
    · unfold biSrtRows at e5
      split at e5
      · rename_i ds' hds'
        split at e5
        · rename_i rows hrows
          split at e5
          · rename_i hl
            obtain ⟨rfl, rfl⟩ := Prod.mk.inj (Option.some.inj e5)
            obtain ⟨p, vs, rfl, sv, hlen, hsq⟩ := list_sq R qa hds'
            obtain ⟨ks, rfl, k2, k3⟩ := rows_refs sv hrows
            obtain ⟨m, hm0, hml⟩ := eqLen_of hl.2
            have hkl : ks.length = rows.length := by rw [← k2, List.length_map]
            refine .inr ⟨p, ks, rfl, hsq, fun z hz => (k3 z hz).1, by omega, fun u L hu hsub hall => ?_⟩
            have n2 := Nx.upd (o := SetTO X.prog X.w u L) R hu
            have R2 := R.upd (R.off hu) n2
            refine .inr ⟨u, L, r', rfl, upd_same, fun z hz => SqT.nx R n2 (k3 z (hsub z hz)).1, fun z hz => RV.nx R n2 (k3 z (hsub z hz)).2, fun L' pm => ?_, fun L' w ws pm nd hw hws => ?_⟩
            · have : (L'.map fun z => tI0 z.2) = (L'.map (·.2)).map tI0 := by rw [List.map_map]; rfl
              rw [this]
              refine sortOk_rows (n := m) (fun r hr => ?_) hm0
              obtain ⟨z, hz, rfl⟩ := List.mem_map.mp hr
              exact hml _ (by rw [← k2]; exact List.mem_map.mpr ⟨z, hsub z (pm.mem_iff.mp hz), rfl⟩)
            · have e6 : (L'.map fun z => tI0 z.2) = (L'.map (·.2)).map tI0 := by rw [List.map_map]; rfl
              have pp : (L'.map (·.2)).Perm (nubR rows) := (pm.map (·.2)).trans ((List.perm_ext_iff_of_nodup nd (nubR_nodup rows)).mpr fun z => by
                rw [nubR_mem, ← k2]
                constructor
                · intro hz
                  obtain ⟨y, hy, rfl⟩ := List.mem_map.mp hz
                  exact List.mem_map.mpr ⟨y, hsub y hy, rfl⟩
                · intro hz
                  obtain ⟨y, hy, rfl⟩ := List.mem_map.mp hz
                  exact hall y hy)
              rw [e6, sortD_rows pp] at hws
              have n3 := Nx.upd (o := .lst ws) R2 hw
              have hlw : (sortD ((nubR rows).map tI0)).length ≤ sizeLine := by
                unfold sortD
                rw [List.length_mergeSort, List.length_map]
                have h1 := nubR_len rows
                have h2 := hl.1
                rw [sizeLine_eq]
                omega
              exact ((P.nx F.1 R n).nx R R2 n2) r' _ _ (R2.upd (R2.off hw) n3) n3 ⟨w, ws, rfl, hw, R2.off hw, upd_same, hlw, hws.nx R2 n3⟩
          · cases e5
        · cases e5
      · cases e5
  · cases e5
end
end Ev
namespace Ev
open PySem PySem.W L2 PyProof.Rows
section
variable [Tab] {n : Nat}
theorem nx_ne {a b : Str} (h : (!(a == b)) = true) : (a == b) = false := not1 h
theorem snd_call (I : Snd n) {X : Cx} {cf : Cf} {k : Kx} {x : Str} {xp pos : Pos} {es : List Expr} {c : E} (S : Stat X cf k) (h : cE (n + 1) k (.Call (.Name x xp) es [] pos) = some c) : CE X cf (.Call (.Name x xp) es [] pos) c := by
  unfold cE at h
  obtain ⟨_, h0, h⟩ := obind h
  obtain ⟨h0, hn⟩ := and1 (chk_eq h0)
  obtain ⟨h0, hd⟩ := and1 h0
  obtain ⟨hg, hs⟩ := and1 h0
  have hd := not1 hd
  have hn := of_decide_eq_true hn
  split at h
  · rename_i i hi
    obtain ⟨cs, h1, h⟩ := obind h
    cases h
    obtain ⟨p, _, z⟩ := I.es S h1
    exact ce_call (S.fu _ _ hi) (S.gl hg) hd p hs z
  · split at h
    · rename_i i hi
      obtain ⟨cs, h1, h⟩ := obind h
      cases h
      obtain ⟨p, _, z⟩ := I.es S h1
      exact ce_mk (S.cl _ _ hi) (S.gl hg) hd p hs z
    · obtain ⟨_, hf, g⟩ := obind h
      clear h
      have hm := S.fr _ (of_decide_eq_true (chk_eq hf))
      by_cases w : x = "isinstance"
      · rw [if_pos w] at g
        split at g
        · obtain ⟨ca, h1, g⟩ := obind g
          obtain ⟨t, h2, g⟩ := obind g
          obtain ⟨_, h3, g⟩ := obind g
          cases g
          obtain ⟨g2, f2⟩ := and1 (chk_eq h3)
          obtain ⟨k1, k2, k3⟩ := cTy_ok h2
          rw [List.all_cons, Bool.and_eq_true] at hs
          rw [w] at hg hm ⊢
          exact ce_isi (I.e S h1) (S.gl hg) hm (S.gl g2) (S.fr _ (of_decide_eq_true f2)) k1 hs.1 k2 k3
        · cases g
      · rw [if_neg w] at g
        split at g
        · rename_i b a hsa
          obtain ⟨_, h2, g⟩ := obind g
          obtain ⟨ca, h3, g⟩ := obind g
          cases g
          obtain ⟨h2, n1⟩ := and1 (chk_eq h2)
          obtain ⟨g2, f2⟩ := and1 h2
          obtain ⟨p2, q2, rfl, w2⟩ := setArg_ok hsa
          rcases w2 with ⟨rfl, rfl⟩ | ⟨rfl, rfl⟩
          · exact ce_lenset S.hc (S.gl hg) hm (S.gl g2) (S.fr _ (of_decide_eq_true f2)) (I.e S h3) n1
          · exact ce_srtset S.hc S.hu (S.gl hg) hm (S.gl g2) (S.fr _ (of_decide_eq_true f2)) (I.e S h3) n1
        · split at g
          · rename_i b hra
            obtain ⟨_, h2, g⟩ := obind g
            obtain ⟨cb, h3, g⟩ := obind g
            cases g
            obtain ⟨h2, n1⟩ := and1 (chk_eq h2)
            obtain ⟨g2, f2⟩ := and1 h2
            obtain ⟨rfl, p2, q2, rfl⟩ := rngArg_ok hra
            exact ce_lrng1 S.hc (S.gl hg) hm (S.gl g2) (S.fr _ (of_decide_eq_true f2)) (I.e S h3) n1
          · rename_i a b hra
            obtain ⟨_, h2, g⟩ := obind g
            obtain ⟨ca, h4, g⟩ := obind g
            obtain ⟨cb, h3, g⟩ := obind g
            cases g
            obtain ⟨h2, n1⟩ := and1 (chk_eq h2)
            obtain ⟨n1, n2⟩ := and1 n1
            obtain ⟨g2, f2⟩ := and1 h2
            obtain ⟨rfl, p2, q2, rfl⟩ := rngArg_ok hra
            exact ce_lrng2 S.hc (S.gl hg) hm (S.gl g2) (S.fr _ (of_decide_eq_true f2)) (I.e S h4) (I.e S h3) n1 n2
          · obtain ⟨f, h1, g⟩ := obind g
            obtain ⟨_, h2, g⟩ := obind g
            obtain ⟨cs, h3, g⟩ := obind g
            cases g
            obtain ⟨p, _, _⟩ := I.as S h3
            cases es with
            | nil => cases chk_eq h2
            | cons e es => exact bi_call S.hc S.hu h1 (S.gl hg) hm p hs
theorem cBM_ok {y : Str} {m : Nat} {b : BM} (h : cBM y m = some b) : (y = "append" ∧ b = .append ∧ m = 1) ∨ (y = "get" ∧ b = .get ∧ (m = 1 ∨ m = 2)) ∨ (y = "pop" ∧ b = .pop ∧ m = 0) ∨ (y = "pop" ∧ b = .popAt ∧ m = 1) ∨ (y = "extend" ∧ b = .extend ∧ m = 1) ∨ (y = "remove" ∧ b = .remove ∧ m = 1) ∨ (y = "index" ∧ b = .index ∧ m = 1) ∨ (y = "count" ∧ b = .count ∧ m = 1) := by
  unfold cBM at h
  rcases ite_some h with ⟨rfl, h⟩ | ⟨_, h⟩
  · by_cases q : m = 1
    · rw [if_pos q] at h; cases h; exact .inl ⟨rfl, rfl, q⟩
    · rw [if_neg q] at h; cases h
  rcases ite_some h with ⟨rfl, h⟩ | ⟨_, h⟩
  · by_cases q : m = 1 ∨ m = 2
    · rw [if_pos q] at h; cases h; exact .inr (.inl ⟨rfl, rfl, q⟩)
    · rw [if_neg q] at h; cases h
  rcases ite_some h with ⟨rfl, h⟩ | ⟨_, h⟩
  · by_cases q : m = 0
    · rw [if_pos q] at h; cases h; exact .inr (.inr (.inl ⟨rfl, rfl, q⟩))
    · rw [if_neg q] at h
      by_cases q : m = 1
      · rw [if_pos q] at h; cases h; exact .inr (.inr (.inr (.inl ⟨rfl, rfl, q⟩)))
      · rw [if_neg q] at h; cases h
  rcases ite_some h with ⟨rfl, h⟩ | ⟨_, h⟩
  · by_cases q : m = 1
    · rw [if_pos q] at h; cases h; exact .inr (.inr (.inr (.inr (.inl ⟨rfl, rfl, q⟩))))
    · rw [if_neg q] at h; cases h
  rcases ite_some h with ⟨rfl, h⟩ | ⟨_, h⟩
  · by_cases q : m = 1
    · rw [if_pos q] at h; cases h; exact .inr (.inr (.inr (.inr (.inr (.inl ⟨rfl, rfl, q⟩)))))
    · rw [if_neg q] at h; cases h
  rcases ite_some h with ⟨rfl, h⟩ | ⟨_, h⟩
  · by_cases q : m = 1
    · rw [if_pos q] at h; cases h; exact .inr (.inr (.inr (.inr (.inr (.inr (.inl ⟨rfl, rfl, q⟩))))))
    · rw [if_neg q] at h; cases h
  rcases ite_some h with ⟨rfl, h⟩ | ⟨_, h⟩
  · by_cases q : m = 1
    · rw [if_pos q] at h; cases h; exact .inr (.inr (.inr (.inr (.inr (.inr (.inr ⟨rfl, rfl, q⟩))))))
    · rw [if_neg q] at h; cases h
  cases h
theorem snd_meth (I : Snd n) {X : Cx} {cf : Cf} {k : Kx} {o : Expr} {y : Str} {apos pos : Pos} {es : List Expr} {c : E} (S : Stat X cf k) (h : cE (n + 1) k (.Call (.Attribute o y apos) es [] pos) = some c) : CE X cf (.Call (.Attribute o y apos) es [] pos) c := by
  unfold cE at h
  obtain ⟨co, h1, h⟩ := obind h
  obtain ⟨_, h0, h⟩ := obind h
  obtain ⟨h0, hline⟩ := and1 (chk_eq h0)
  obtain ⟨h0, hl⟩ := and1 h0
  obtain ⟨hb, hs⟩ := and1 h0
  have hl := of_decide_eq_true hl
  have hu := S.hu
  split at h
  · rename_i b hbm
    obtain ⟨cs, h2, h⟩ := obind h
    cases h
    obtain ⟨p, _, q⟩ := I.as S h2
    refine ce_meth (fun _ w => by cases w) fun b' w => ?_
    cases w
    replace hbm : cBM y es.length = some b := by
      split at hbm
      · cases hbm
      · exact hbm
    rcases cBM_ok hbm with ⟨rfl, rfl, hlen⟩ | ⟨rfl, rfl, hlen⟩ | ⟨rfl, rfl, hlen⟩ | ⟨rfl, rfl, hlen⟩ | ⟨rfl, rfl, hlen⟩ | ⟨rfl, rfl, hlen⟩ | ⟨rfl, rfl, hlen⟩ | ⟨rfl, rfl, hlen⟩
    · cases es with
      | nil => cases hlen
      | cons e es => exact pe_append (I.e S h1) p hb hs hl hline
    · match es, hlen, hs, q with
      | [], w, _, _ => rcases w with w | w <;> cases w
      | [e], _, hs, q =>
        obtain ⟨d, ds, hd, he, _⟩ := q e [] rfl
        rw [List.all_cons, Bool.and_eq_true] at hs
        have : ds = .nil := by
          subst hd
          cases n with
          | zero => unfold cAs at h2; cases h2
          | succ n =>
            unfold cAs at h2
            obtain ⟨_, _, h2⟩ := obind h2
            obtain ⟨_, _, h2⟩ := obind h2
            obtain ⟨cz, h3, h2⟩ := obind h2
            cases h2
            cases n with
            | zero => unfold cAs at h3; cases h3
            | succ n => unfold cAs at h3; cases h3; rfl
        subst this; subst hd
        exact pe_get1 (by omega) (I.e S h1) he hb hs.1 hline
      | [e, f], _, hs, q =>
        obtain ⟨d, ds, hd, he, w⟩ := q e [f] rfl
        obtain ⟨d2, hd2, hf⟩ := w f rfl
        subst hd2; subst hd
        rw [List.all_cons, Bool.and_eq_true, List.all_cons, Bool.and_eq_true] at hs
        exact pe_get2 (by omega) (I.e S h1) he hf hb hs.1 hs.2.1 hline
      | _ :: _ :: _ :: _, w, _, _ => rcases w with w | w <;> simp at w
    · cases es with
      | cons e es => cases hlen
      | nil =>
        have : cs = .nil := by
          cases n with
          | zero => unfold cAs at h2; cases h2
          | succ n => unfold cAs at h2; cases h2; rfl
        subst this
        exact pe_pop (I.e S h1) hb hline
    · cases es with
      | nil => cases hlen
      | cons e es => exact pe_popAt (I.e S h1) p hb hs hl hline
    · cases es with
      | nil => cases hlen
      | cons e es => exact pe_extend' (I.e S h1) p hb hs hl hline
    · cases es with
      | nil => cases hlen
      | cons e es => exact pe_remove (I.e S h1) p hb hs hl hline
    · cases es with
      | nil => cases hlen
      | cons e es => exact pe_index (by omega) (I.e S h1) p hb hs hl hline
    · cases es with
      | nil => cases hlen
      | cons e es => exact pe_count (I.e S h1) p hb hs hl hline
  · obtain ⟨m, h3, h⟩ := obind h
    obtain ⟨cs, h2, h⟩ := obind h
    cases h
    obtain ⟨p, _, z⟩ := I.es S h2
    refine ce_meth (fun m' w => ?_) fun _ w => by cases w
    cases w
    exact pe_own (S.name h3) (S.me _ _ (S.name h3)) (I.e S h1) p hb hs z hl hline
theorem snd_e (I : Snd n) {X : Cx} {cf : Cf} {k : Kx} {e : Expr} {c : E} (S : Stat X cf k) (h : cE (n + 1) k e = some c) : CE X cf e c := by
  have hu := S.hu
  have h' := h
  unfold cE at h
  split at h
  · obtain ⟨i, h1, h⟩ := obind h
    obtain ⟨_, h2, h⟩ := obind h
    cases h
    obtain ⟨h2, h3⟩ := and1 (chk_eq h2)
    obtain ⟨h2, h4⟩ := and1 h2
    exact ce_var (S.slot h1) (S.vis h2) (not1 h4) (not1 h3)
  · obtain ⟨d, h1, h⟩ := obind h
    cases h
    exact cConst_ok h1
  · obtain ⟨o, h1, h⟩ := obind h
    obtain ⟨ca, h2, h⟩ := obind h
    obtain ⟨cb, h3, h⟩ := obind h
    cases h
    exact ce_bin (cOp_ok h1) (I.e S h2) (I.e S h3)
  · obtain ⟨ca, h2, h⟩ := obind h
    cases h
    exact ce_not (I.e S h2)
  · obtain ⟨ca, h2, h⟩ := obind h
    cases h
    exact ce_neg (I.e S h2)
  · exact (I.bo S h).ce
  · obtain ⟨ca, h2, h⟩ := obind h
    obtain ⟨cb, h3, h⟩ := obind h
    obtain ⟨_, h4, h⟩ := obind h
    cases h
    exact ce_cmp (cCmp_ok hu) (I.e S h2) (I.e S h3) (not1 (chk_eq h4))
  · obtain ⟨ca, h2, h⟩ := obind h
    obtain ⟨cb, h3, h⟩ := obind h
    obtain ⟨cc, h5, h⟩ := obind h
    obtain ⟨_, h4, h⟩ := obind h
    cases h
    exact ce_chain (cCmp_ok hu) (cCmp_ok hu) (I.e S h2) (I.e S h3) (I.e S h5) (not1 (chk_eq h4))
  · obtain ⟨ca, h2, h⟩ := obind h
    obtain ⟨cb, h3, h⟩ := obind h
    obtain ⟨cc, h5, h⟩ := obind h
    cases h
    exact ce_ite (I.e S h2) (I.e S h3) (I.e S h5)
  · obtain ⟨cs, h2, h⟩ := obind h
    cases h
    exact ce_tup (I.es S h2).1
  · obtain ⟨cs, h2, h⟩ := obind h
    cases h
    exact ce_lst (I.es S h2).1
  · cases h
    exact ce_dic0
  · obtain ⟨_, h1, h⟩ := obind h
    obtain ⟨cks, h2, h⟩ := obind h
    cases h
    obtain ⟨h1, k4⟩ := and1 (chk_eq h1)
    obtain ⟨k2, k3⟩ := and1 h1
    generalize decide (_ ∈ k.dT) = b
    cases b with
    | false => exact ce_dicK (I.ps _ S h2) k2 (by simpa using k3) (by simp) (of_decide_eq_true k4)
    | true => exact ce_dicT (by have := S.hu; omega) (I.ps _ S h2) k2 (by simpa using k3) (by simp) (of_decide_eq_true k4)
  · obtain ⟨ca, h2, h⟩ := obind h
    obtain ⟨cl, h3, h⟩ := obind h
    obtain ⟨ch, h4, h⟩ := obind h
    cases h
    exact ce_sl (I.e S h2) (I.o S h3) (I.o S h4)
  · obtain ⟨ca, h2, h⟩ := obind h
    cases h
    exact ce_rev (I.e S h2)
  · obtain ⟨ca, h2, h⟩ := obind h
    obtain ⟨cb, h3, h⟩ := obind h
    obtain ⟨_, h4, h⟩ := obind h
    cases h
    exact ce_ix (by omega) (I.e S h2) (I.e S h3) (plain_ix (chk_eq h4)) (plain_sl (chk_eq h4))
  · obtain ⟨ca, h2, h⟩ := obind h
    obtain ⟨f, h3, h⟩ := obind h
    obtain ⟨_, h4, h⟩ := obind h
    cases h
    exact ce_fld (I.e S h2) (S.name h3) (chk_eq h4)
  · obtain ⟨⟨ce, t, cit, cc⟩, h2, h⟩ := obind h
    cases h
    exact ce_lc S.hc S.nd (I.lc S h2)
  · exact snd_call I S h'
  · exact snd_meth I S h'
  · cases h
theorem snd_all : ∀ n, Snd n
  | 0 => snd0
  | n + 1 => { e := snd_e (snd_all n), bo := snd_bo (snd_all n), o := snd_o (snd_all n), es := snd_es (snd_all n), as := snd_as (snd_all n), ps := snd_ps (snd_all n), it := snd_it (snd_all n), lc := snd_lc (snd_all n) }
end
end Ev
namespace Ev
open PySem PySem.W L2 PyProof.Rows
theorem sw_tup {e : Expr} {ts : List Expr} {a : Nat} {p : Pos} {l : Nat} {env : PySem.Env} : swapsWithSole [.Tuple ts a p] e l env = pure false := by cases e <;> rfl
theorem sw_sub {e a b : Expr} {p : Pos} {l : Nat} {env : PySem.Env} : swapsWithSole [.Subscript a b p] e l env = pure false := by cases e <;> rfl
theorem sw_fld {e a : Expr} {y : Str} {p : Pos} {l : Nat} {env : PySem.Env} : swapsWith e (some (.Attribute a y p)) l env = pure false := by cases e <;> rfl
theorem ss_sub {e a b : Expr} {p : Pos} {env : PySem.Env} : swappedStores [.Subscript a b p] e env = pure none := by cases e <;> rfl
theorem ss_tup {e : Expr} {ts : List Expr} {a : Nat} {p : Pos} {env : PySem.Env} (h : (match e with
        | .Tuple .. => false
        | _ => true) = true) : swappedStores [.Tuple ts a p] e env = pure none := by cases e <;> first | rfl | cases h
theorem swP_ok {ts vs : List Expr} {k2 kt : Nat} {pt p2 : Pos} {env : PySem.Env} {r : Option (List Str)} (hk : env.scope.kind = .function) (h : swP env.scope ts vs = some r) : swappedStores [.Tuple ts kt pt] (.Tuple vs k2 p2) env = pure r := by
  have hb : env.blockKind = .function := by unfold Env.blockKind; rw [hk]; rfl
  have hb2 : (env.blockKind != .function) = false := by rw [hb]; rfl
  have e : ∃ w, swappedStores [.Tuple ts kt pt] (.Tuple vs k2 p2) env = (if (!(ts.length == 2 || ts.length == 3) || vs.length != ts.length || (env.blockKind != .function)) = true then pure none else
    if hasStar vs = true then pure none else
    if ((swNames env.scope ts).length != ts.length || (swNames env.scope ts).eraseDups.length != (swNames env.scope ts).length) = true then pure none else
    if vs.all (foldedForSure 8) = true then pure none else
    if vs.all (constantsAlone 8) = true then w else pure (some (swNames env.scope ts))) := ⟨_, rfl⟩
  obtain ⟨w, e⟩ := e
  rw [e, hb2, Bool.or_false]
  unfold swP at h
  generalize (!(ts.length == 2 || ts.length == 3) || vs.length != ts.length) = b1 at *
  generalize hasStar vs = b2 at *
  generalize ((swNames env.scope ts).length != ts.length || (swNames env.scope ts).eraseDups.length != (swNames env.scope ts).length) = b3 at *
  generalize vs.all (foldedForSure 8) = b4 at *
  generalize vs.all (constantsAlone 8) = b5 at *
  cases b1 <;> cases b2 <;> cases b3 <;> cases b4 <;> cases b5 <;> cases h <;> rfl
theorem cQs_ok {N : List Str} {sc : Scope} : ∀ {xs : List Str} {qs : List (Nat × Str)}, cQs N sc xs = some qs → qs.map (·.2) = xs ∧ ∀ q ∈ qs, N[q.1]? = some q.2 ∧ sc.names.lookup q.2 = some .local
  | [], qs, h => by unfold cQs at h; cases h; exact ⟨rfl, fun _ w => by cases w⟩
  | x :: xs, qs, h => by
    unfold cQs at h
    obtain ⟨i, h1, h⟩ := obind h
    obtain ⟨_, h2, h⟩ := obind h
    obtain ⟨r, h3, h⟩ := obind h
    cases h
    obtain ⟨e, z⟩ := cQs_ok h3
    refine ⟨by simp [e], fun q hq => ?_⟩
    rcases List.mem_cons.mp hq with rfl | hq
    · exact ⟨ixOf_get h1, isLocal_ok (chk_eq h2)⟩
    · exact z q hq
section
variable [Tab] {X : Cx} {cf : Cf} {k : Kx} {n : Nat}
theorem cIp_ok {op : Operator} {o : Op2} (h : cIp op = some o) : PIp X op (RIp X.K X.mg o) := by
  cases op <;> first | cases h | skip
  · exact i_add
  · exact i_sub
  · exact i_mul
  · exact i_fdiv
/-- y = [..] as the machine stores it -/
theorem sw_lc {elt : Expr} {gs : List Comprehension} {scope : Scope} {pos py : Pos} {y : Str} {l : Nat} {env : PySem.Env} (hk : env.scope.kind = .function) :
    (swapsWith (.ListComp elt gs scope pos) (some (.Name y py)) l env = pure true ∧ env.scope.names.lookup y = some .local) ∨ swapsWith (.ListComp elt gs scope pos) (some (.Name y py)) l env = pure false := by
  have hb : env.blockKind = .function := by unfold Env.blockKind; rw [hk]; rfl
  have e : swapsWith (.ListComp elt gs scope pos) (some (.Name y py)) l env = pure (env.blockKind == .function && env.kindOf y == some .local && py.line == pos.line && !(scope.names.any fun (n, k) => n == y && (k == .local || k == .cell))) := rfl
  rw [e]
  cases q : (env.blockKind == .function && env.kindOf y == some .local && py.line == pos.line && !(scope.names.any fun (n, k) => n == y && (k == .local || k == .cell)))
  · exact .inr rfl
  · obtain ⟨q, _⟩ := and1 q
    obtain ⟨q, _⟩ := and1 q
    obtain ⟨_, q⟩ := and1 q
    exact .inl ⟨rfl, eq_of_beq q⟩
structure SndS [Tab] (n : Nat) : Prop where
  s : ∀ {X cf k s c}, Stat X cf k → cS n k s = some c → PS X s (TrS cf X.K X.mg c)
  ss : ∀ {X cf k s c}, Stat X cf k → cSs n k s = some c → PSs X s (TrSs cf X.K X.mg c)
theorem snd_s (I : SndS n) {s : Stmt} {c : S} (S : Stat X cf k) (h : cS (n + 1) k s = some c) : PS X s (TrS cf X.K X.mg c) := by
  have hu := S.hu
  have J := snd_all n
  have hk : X.env.scope.kind = .function := by rw [S.sc]; exact S.kd
  unfold cS at h
  split at h
  · obtain ⟨ca, h1, g⟩ := obind h
    obtain ⟨_, h2, g⟩ := obind g
    cases g
    exact s_expr (J.e S h1) (chk_eq h2)
  · cases h; exact s_ret0
  · obtain ⟨ca, h1, g⟩ := obind h
    cases g
    exact s_ret (J.e S h1)
  · cases h; exact s_pass
  · cases h; exact s_brk
  · cases h; exact s_cont
  · obtain ⟨i, h1, g⟩ := obind h
    obtain ⟨_, h2, g⟩ := obind g
    clear h
    obtain ⟨hl, hf⟩ := and1 (chk_eq h2)
    split at g
    · obtain ⟨⟨ce, t, cit, cc⟩, h3, g⟩ := obind g
      cases g
      have L := J.lc S h3
      rcases sw_lc hk with ⟨hsw, hy⟩ | hsw
      · exact (swaps_lc (spos := _) S.hc S.nd (S.slot h1) hy hsw L).evI fun D σ H z => asg_name z
      · exact s_set S.nd (S.slot h1) (S.loc hl) (S.hf hf) (ce_lc S.hc S.nd L) hsw
    · obtain ⟨_, h3, g⟩ := obind g
      obtain ⟨ca, h4, g⟩ := obind g
      cases g
      exact s_set S.nd (S.slot h1) (S.loc hl) (S.hf hf) (J.e S h4) (swaps_no (chk_eq h3))
  · obtain ⟨r, h1, g⟩ := obind h
    clear h
    have hw := fun a b c d => swP_ok (kt := a) (pt := b) (k2 := c) (p2 := d) hk (by rw [S.sc]; exact h1)
    split at g
    · obtain ⟨qs, h2, g⟩ := obind g
      obtain ⟨cs, h3, g⟩ := obind g
      cases g
      obtain ⟨e, z⟩ := cQs_ok h2
      refine s_par S.hc S.nd (fun q hq => ?_) (J.es S h3).1 (by rw [e]; exact hw _ _ _ _)
      rw [S.hN, S.sc]
      exact z q hq
    · obtain ⟨t, h2, g⟩ := obind g
      obtain ⟨cs, h3, g⟩ := obind g
      cases g
      obtain ⟨p1, p2⟩ := cTg_ok S h2
      exact s_tgt (ce_tup (J.es S h3).1) p1 sw_tup (hw _ _ _ _) p2
  · obtain ⟨_, h1, g⟩ := obind h
    obtain ⟨t, h2, g⟩ := obind g
    obtain ⟨ca, h3, g⟩ := obind g
    cases g
    obtain ⟨p1, p2⟩ := cTg_ok S h2
    exact s_tgt (J.e S h3) p1 sw_tup (ss_tup (chk_eq h1)) p2
  · obtain ⟨ca, h2, g⟩ := obind h
    obtain ⟨cc, h4, g⟩ := obind g
    cases g
    exact s_all (J.e S h4) (J.e S h2) sw_sub ss_sub
  · obtain ⟨_, h1, g⟩ := obind h
    obtain ⟨ca, h2, g⟩ := obind g
    obtain ⟨cb, h3, g⟩ := obind g
    obtain ⟨cc, h4, g⟩ := obind g
    cases g
    exact s_sub (by omega) (chk_eq h1) (J.e S h4) (J.e S h2) (J.e S h3) sw_sub ss_sub
  · obtain ⟨ca, h2, g⟩ := obind h
    obtain ⟨f, h3, g⟩ := obind g
    obtain ⟨cc, h4, g⟩ := obind g
    cases g
    exact s_fld (S.name h3) (J.e S h4) (J.e S h2) sw_fld
  · obtain ⟨i, h1, g⟩ := obind h
    obtain ⟨_, h2, g⟩ := obind g
    obtain ⟨o, h3, g⟩ := obind g
    obtain ⟨ca, h4, g⟩ := obind g
    cases g
    obtain ⟨hl, hf⟩ := and1 (chk_eq h2)
    exact s_aug (cIp_ok h3) S.nd (S.slot h1) (S.loc hl) (S.hf hf) (J.e S h4)
  · obtain ⟨_, h1, g⟩ := obind h
    obtain ⟨o, h3, g⟩ := obind g
    obtain ⟨ca, h4, g⟩ := obind g
    obtain ⟨cb, h5, g⟩ := obind g
    obtain ⟨cc, h6, g⟩ := obind g
    cases g
    exact s_augs (by omega) (cIp_ok h3) (J.e S h4) (J.e S h5) (J.e S h6) (chk_eq h1)
  · obtain ⟨o, h3, g⟩ := obind h
    obtain ⟨f, h4, g⟩ := obind g
    obtain ⟨ca, h5, g⟩ := obind g
    obtain ⟨cb, h6, g⟩ := obind g
    cases g
    exact s_augf (S.name h4) (cIp_ok h3) (J.e S h5) (J.e S h6)
  · obtain ⟨cc, h1, g⟩ := obind h
    obtain ⟨ca, h2, g⟩ := obind g
    obtain ⟨cb, h3, g⟩ := obind g
    cases g
    exact s_ite (J.e S h1) (I.ss S h2) (I.ss S h3)
  · obtain ⟨cc, h1, g⟩ := obind h
    obtain ⟨ca, h2, g⟩ := obind g
    cases g
    exact s_while S.xe (J.e S h1) (I.ss S h2)
  · obtain ⟨t, h1, g⟩ := obind h
    obtain ⟨_, h4, g⟩ := obind g
    obtain ⟨cc, h2, g⟩ := obind g
    obtain ⟨ca, h3, g⟩ := obind g
    cases g
    exact s_for S.xe S.hc (J.it S h2) (cTg_ok S h1).1 (I.ss S h3) fun x => folded_ok (isSet_no (not1 (chk_eq h4)))
  · cases h
theorem snds_all : ∀ n, SndS n
  | 0 => ⟨fun _ h => (by unfold cS at h; cases h), fun _ h => (by unfold cSs at h; cases h)⟩
  | n + 1 => ⟨fun S h => snd_s (snds_all n) S h, fun S h => by
    unfold cSs at h
    split at h
    · cases h; exact ss_nil
    · obtain ⟨ca, h2, g⟩ := obind h
      obtain ⟨cb, h3, g⟩ := obind g
      cases g
      exact ss_cons ((snds_all n).s S h2) ((snds_all n).ss S h3)⟩
end
end Ev
namespace Ev
open PySem PySem.W L2 PyProof.Rows
/-! ### a whole text -/
structure DE where
  d : He.DefD
  N : List Str
  ps : List Str
structure Com where
  dT : List Nat
  funs : List (Str × Nat)
  cls : List (Str × Nat)
  free : List Str
section
variable [Tab]
def DE.kx (C : Com) (e : DE) : Kx := ⟨e.N, e.d.scope, fun _ => true, C.dT, C.funs, C.cls, Tab.nm, C.free⟩
def DE.comp (n : Nat) (C : Com) (e : DE) : Option FD := if (C8.scC e.N e.ps e.d.scope && e.d.dfl.isEmpty && e.d.kwd.isEmpty) = true then (cSs n (e.kx C) e.d.body).map fun b => ⟨e.ps.length, e.N.length, b⟩ else none
def compAll (n : Nat) (C : Com) : List DE → Option (List FD)
  | [] => some []
  | e :: es => do
    let f ← e.comp n C
    let fs ← compAll n C es
    some (f :: fs)
theorem compAll_get {n : Nat} {C : Com} : ∀ {es : List DE} {fs : List FD}, compAll n C es = some fs → ∀ (i : Nat) (e : DE), es[i]? = some e → ∃ f, fs[i]? = some f ∧ e.comp n C = some f
  | [], _, _, i, e, he => by cases he
  | e' :: es, fs, h, i, e, he => by
    unfold compAll at h
    obtain ⟨f, h1, h⟩ := obind h
    obtain ⟨fs', h2, h⟩ := obind h
    cases h
    cases i with
    | zero => cases he; exact ⟨f, rfl, h1⟩
    | succ i => exact compAll_get h2 i e he
theorem callAt_zero {P : List FD} {i : Nat} {ds : List D} {M : Mem} : callAt P 0 i ds M = none := by unfold callAt; rfl
abbrev DE.Is (K : Frg) (e : DE) (a : Addr) (fd : FuncData) : Prop := FunD K e.d.name e.d.qual e.d.params e.d.body e.d.scope (e.d.dvs K) (e.d.kws K) a fd
structure Facts (K : Frg) (mg : Str → Option Value) (C : Com) (es : List DE) (ad : Nat → Addr) : Prop where
  df : ∀ (i : Nat) (e : DE), es[i]? = some e → ∃ fd, e.Is K (ad i) fd ∧ Binds K fd e.ps []
  fu : ∀ x i, C.funs.lookup x = some i → mg x = some (.ref (ad i)) ∧ i < es.length
  cl : ∀ x c, C.cls.lookup x = some c → ∃ a g, (Tab.cn[c]? = some x ∧ mg x = some (.ref a) ∧ Cls K a ∧ ∀ f y, (c, f) ∈ Tab.fl → Tab.nm[f]? = some y → NoAttr K a y) ∧ Mk K a g ∧ ∀ i, Tab.ini.lookup c = some i → g = ad i ∧ i < es.length
  me : ∀ m y, Tab.nm[m]? = some y → ∀ C f, Tab.mt.lookup (C, m) = some f → f < es.length ∧ ∃ x c, Tab.cn[C]? = some x ∧ mg x = some (.ref c) ∧ Cls K c ∧ Meth K c y (ad f)
  fr : ∀ x, x ∈ C.free → mg x = none
theorem Rel.start {K : Frg} {mg : Str → Option Value} {H : Hp} : Rel K mg [] H [] := ⟨rfl, List.nodup_nil, fun i a o h => by cases h⟩
theorem RVs.get2 {K : Frg} {r : List Addr} {H : Hp} : ∀ {ds : List D} {vs : List V} {i : Nat} {d : D}, RVs K r H ds vs → ds[i]? = some d → ∃ x, vs[i]? = some x ∧ RV K r H d x
  | [], _, _, _, _, h => by cases h
  | e :: ds, _, i, d, ⟨v, ws, rfl, q, s⟩, h => by
    cases i with
    | zero => cases h; exact ⟨v, rfl, q⟩
    | succ i => exact RVs.get2 (i := i) s (by simpa using h)
theorem RE.start {K : Frg} {r : List Addr} {H : Hp} {ds : List D} {vs : List V} {N : List Str} (h : RVs K r H ds vs) : RE K r H (ds.map some ++ List.replicate (N.length - ds.length) none) (L2.start N vs) := by
  have hl := h.length
  unfold L2.start
  refine ⟨by simp [hl], fun i d e => ?_⟩
  by_cases hi : i < ds.length
  · rw [List.getElem?_append_left (by simpa using hi), List.getElem?_map] at e
    obtain ⟨d', h1, h2⟩ := Option.map_eq_some_iff.mp e
    cases h2
    obtain ⟨x, hx, q⟩ := RVs.get2 h h1
    refine ⟨x, ?_, q⟩
    rw [List.getElem?_append_left (by simp; omega), List.getElem?_map, hx]
    rfl
  · rw [List.getElem?_append_right (by simpa using hi), List.getElem?_replicate] at e
    split at e <;> cases e
section
variable {P : Program} {w : World} {K : Frg} {mg : Str → Option Value} {base : Heap} {C : Com} {es : List DE} {fs : List FD} {ad : Nat → Addr} {n : Nat}
theorem FunD.kp' {e : DE} {a : Addr} {fd : FuncData} (h : e.Is K a fd) : PySem.W.keepIn K (.ref a) = true := h.kp
/-- THE TEXT RUNS AS IT IS READ: each def, at each depth -/
theorem text_ok (hC : compAll n C es = some fs) (F : Facts K mg C es ad) : ∀ (k i : Nat) (e : DE) (fd : FuncData), es[i]? = some e → e.Is K (ad i) fd → FnOk P w K mg base CX0 k (ad i) fd e.ps (spF K mg (callAt fs k i))
  | 0, i, e, fd, _, _ => ⟨fun vs H Q E ⟨_, _, _, _, _, _, _, h, _⟩ => (by rw [callAt_zero] at h; cases h), fun A outer s H args us vs Q E _ _ _ _ ⟨_, _, _, _, _, _, _, h, _⟩ => (by rw [callAt_zero] at h; cases h)⟩
  | k + 1, i, e, fd, he, hd => by
    obtain ⟨f, hf, hc⟩ := compAll_get hC i e he
    unfold DE.comp at hc
    have hq : (C8.scC e.N e.ps e.d.scope && e.d.dfl.isEmpty && e.d.kwd.isEmpty) = true := by
      by_cases hq : (C8.scC e.N e.ps e.d.scope && e.d.dfl.isEmpty && e.d.kwd.isEmpty) = true
      · exact hq
      · rw [if_neg hq] at hc; cases hc
    rw [if_pos hq] at hc
    obtain ⟨b, hb, hfb⟩ := Option.map_eq_some_iff.mp hc
    subst hfb
    obtain ⟨hq1, _⟩ := and1 hq
    obtain ⟨hsc, _⟩ := and1 hq1
    have S := C8.fnScope_by hsc
    refine hd.ok S (fun vs H Q E h => ?_) fun cdv A outer s H vs Q E hr h => ⟨TrSs ⟨callAt fs k, iniOf (callAt fs (k - 1))⟩ K mg b, PSs.nox ?_, ?_⟩
    · obtain ⟨r, M, ds, d, M', R, q, h, _⟩ := h
      unfold callAt at h
      rw [hf] at h
      dsimp only at h
      split at h
      · rename_i hl
        rw [← q.length]; exact hl
      · cases h
    · -- the body, as it was read
      have St : Stat (cxOf CX0 P w K mg base e.N e.d.qual e.d.scope (ad i) cdv A outer s H E).nox ⟨callAt fs k, iniOf (callAt fs (k - 1))⟩ (e.kx C) :=
        { hN := rfl, nd := S.nd, sc := rfl, kd := S.kind, fn := fun _ _ => rfl, hc := rfl, xe := rfl
          hu := by
            have := hr.un
            show (A.deeper (envOfC e.d.qual e.d.scope s.heap.objs.size (ad i) cdv)).units + 70 < cLine
            omega
          nm := rfl
          fu := fun x j hx ds M z _ => by
            obtain ⟨hm, hj⟩ := F.fu x j hx
            obtain ⟨e', he'⟩ : ∃ e', es[j]? = some e' := ⟨_, List.getElem?_eq_getElem hj⟩
            obtain ⟨fd', hd', hb'⟩ := F.df j e' he'
            exact ⟨_, hm, hd'.kp, fd', e'.ps, k, text_ok hC F k j e' fd' he' hd', hr, hb'⟩
          cl := fun x c hx ds M z hz => by
            obtain ⟨a, g, h1, h2, h3⟩ := F.cl x c hx
            unfold iniOf at hz
            dsimp only at hz
            split at hz
            · rename_i j hj
              obtain ⟨rfl, hj'⟩ := h3 j hj
              obtain ⟨e', he'⟩ : ∃ e', es[j]? = some e' := ⟨_, List.getElem?_eq_getElem hj'⟩
              obtain ⟨fd', hd', hb'⟩ := F.df j e' he'
              cases k with
              | zero =>
                have hz : callAt fs 0 j ds M = some z := hz
                rw [callAt_zero] at hz
                cases hz
              | succ k =>
                refine ⟨a, _, h1, h2, fd', e'.ps, k, ?_, hr, hb'⟩
                have e2 : iniOf (callAt fs (k + 1 - 1)) c = callAt fs k j := by
                  funext ds M
                  unfold iniOf
                  rw [hj]
                  rfl
                show FnOk _ _ _ _ _ _ _ _ _ _ (spF K mg (iniOf (callAt fs (k + 1 - 1)) c))
                rw [e2]
                exact text_ok hC F k j e' fd' he' hd'
            · cases hz
          me := fun m y hy c j hj ds M z _ => by
            obtain ⟨hj', x, a, k1, k2, k3, k4⟩ := F.me m y hy c j hj
            obtain ⟨e', he'⟩ : ∃ e', es[j]? = some e' := ⟨_, List.getElem?_eq_getElem hj'⟩
            obtain ⟨fd', hd', hb'⟩ := F.df j e' he'
            exact ⟨x, a, _, k1, k2, k3, k4, fd', e'.ps, k, text_ok hC F k j e' fd' he' hd', hr, hb'⟩
          fr := F.fr }
      exact (snds_all n).ss St hb
    · obtain ⟨r, M, ds, d, M', R, q, h, Pq⟩ := h
      unfold callAt at h
      rw [hf] at h
      dsimp only at h
      split at h
      case isFalse => cases h
      rename_i hl
      obtain ⟨⟨fl, v2⟩, M2, g1, g2⟩ := bnd_eq h
      refine ⟨r, _, M, fl, v2, M2, ⟨R, ?_⟩, g1, fun r' H' σ' R' n' E' => ?_⟩
      · have := RE.start (N := e.N) q
        rw [hl] at this
        exact this
      · cases fl with
        | bk => cases g2
        | ct => cases g2
        | nx =>
          have g2 : some (fin M .non M2) = some (d, M') := g2
          obtain ⟨r2, R2, n2, q2⟩ := R.fin n' R' (show RV K r' H' .non V.non from rfl)
          rw [Option.some.inj g2] at R2 q2
          exact Pq r2 H' _ R2 n2 q2
        | rt d' =>
          have g2 : some (fin M d' M2) = some (d, M') := g2
          intro x hx
          obtain ⟨r2, R2, n2, q2⟩ := R.fin n' R' hx
          rw [Option.some.inj g2] at R2 q2
          exact Pq r2 H' _ R2 n2 q2
/-- the law's promise, at the script -/
theorem law_sp {k i m : Nat} (h : ∀ ns : List Int, ns.length ≤ m → ∃ M', callAt fs k i [.fz (ns.map .int)] [] = some (.bl true, M')) (hm : m ≤ sizeLine) (H : Hp) (a : Addr) (ns : List Int) (hl : ns.length ≤ m) (hO : Only H) (hS : SqL K H a (ns.map V.int)) (E : XK) :
    spF K mg (callAt fs k i) [.ref a] H (fun v _ => v = .bl true) E := by
  obtain ⟨M', h⟩ := h ns hl
  refine ⟨[], [], [.fz (ns.map .int)], .bl true, M', Rel.start, ⟨.ref a, [], rfl, ⟨a, ns.map V.int, rfl, ?_, by simp; omega, ?_⟩, rfl⟩, h, fun r' H' x R n q => q⟩
  · rcases hS with hS | hS
    · rcases hS with hS | hS
      · rcases hO a with z | ⟨o, xs, z⟩ <;> (rw [z] at hS; cases hS)
      · exact .inl hS
    · exact .inr hS
  · clear hl h hS
    induction ns with
    | nil => rfl
    | cons n ns ih => exact ⟨.int n, _, rfl, rfl, ih⟩
end
end
end Ev
namespace Ev
def AllP {α : Type} (Q : α → Prop) : List α → Prop
  | [] => True
  | a :: l => Q a ∧ AllP Q l
theorem AllP.mem {α : Type} {Q : α → Prop} : ∀ {l : List α}, AllP Q l → ∀ a ∈ l, Q a
  | [], _, _, h => nomatch h
  | b :: l, ⟨h1, h2⟩, a, h => by
    rcases List.mem_cons.mp h with rfl | h
    · exact h1
    · exact AllP.mem h2 a h
theorem AllP.look {α β : Type} [BEq α] [LawfulBEq α] {Q : α × β → Prop} : ∀ {l : List (α × β)}, AllP Q l → ∀ {a : α} {b : β}, l.lookup a = some b → Q (a, b)
  | [], _, _, _, h => by cases h
  | p :: l, ⟨h1, h2⟩, a, b, h => by
    obtain ⟨x, y⟩ := p
    rw [List.lookup_cons] at h
    cases e : a == x with
    | true =>
      rw [e] at h
      cases h
      rw [eq_of_beq e]
      exact h1
    | false =>
      rw [e] at h
      exact AllP.look h2 h
end Ev
namespace Ev
open PySem
/-! ### what the laws' own helpers do -/
/-- _law_next -/
def bNext : Ss := (.cons (.augs (.var 0) (.cst (.str "at")) .add (.cst (.int 1))) (.cons (.ite (.op .gt (.ix (.var 0) (.cst (.str "at"))) (.bi .len (.cons (.ix (.var 0) (.cst (.str "draws"))) .nil))) (.cons (.ret (.cst (.int 0))) .nil) .nil) (.cons (.ret (.op .mod (.bi .int (.cons (.ix (.ix (.var 0) (.cst (.str "draws"))) (.op .sub (.ix (.var 0) (.cst (.str "at"))) (.cst (.int 1)))) .nil)) (.var 1))) .nil)))
/-- the next draw -/
def nxt (ds : List Int) (n : Nat) (m : Int) : Int := match ds[n]? with
  | some d => d % m
  | none => 0
def wO (r : Nat) (n : Nat) : MO := .dic false [(.str "draws", .ref r), (.str "at", .int n)]
section
variable [Tab] {P : List FD} {i k : Nat}
theorem ne_at : (Str.ofString "draws" = Str.ofString "at") = False := eq_false (by decide)
theorem atI_map (ds : List Int) (n : Nat) : L2.atI (ds.map D.int) (n : Int) = (ds[n]?).map D.int := by
  unfold L2.atI L2.ixN
  rw [if_pos (Int.natCast_nonneg n), List.length_map]
  by_cases h : n < ds.length
  · rw [if_pos (by omega)]
    simp
  · rw [if_neg (by omega)]
    simp at h
    simp [h]
theorem next_ok (h : P[i]? = some ⟨2, 2, bNext⟩) {M : Mem} {w r n : Nat} {ds : List Int} {m : Int} (hw : M[w]? = some (wO r n)) (hr : M[r]? = some (.lst (ds.map .int))) (hm : 0 < m) (hl : ds.length ≤ line) :
    callAt P (k + 1) i [.ref w, .int m] M = some (.int (nxt ds n m), M.set w (wO r (n + 1))) := by
  unfold callAt
  rw [h]
  have hwl : w < M.length := (List.getElem?_eq_some_iff.mp hw).1
  have hrw : r ≠ w := fun e => by subst e; rw [hw] at hr; cases hr
  have h2 : (M.set w (wO r (n + 1)))[w]? = some (wO r (n + 1)) := List.getElem?_set_self hwl
  have h3 : (M.set w (wO r (n + 1)))[r]? = some (.lst (ds.map .int)) := by rw [List.getElem?_set_ne (Ne.symm hrw)]; exact hr
  have hset : setI M (.ref w) (.str "at") (.int (n + 1)) = some (M.set w (wO r (n + 1))) := by
    unfold setI
    simp only [hw, wO]
    simp [isKey, isKeyK, dput, ne_at, line]
  have hat : ∀ M2 : Mem, ∀ j : Nat, M2[w]? = some (wO r j) → ixD M2 (.v (.ref w)) (.str "at") = some (.int j) := fun M2 j e => by
    unfold ixD
    simp only [e, wO]
    simp [isKey, isKeyK, dget, ne_at]
  have hdr : ∀ M2 : Mem, ∀ j : Nat, M2[w]? = some (wO r j) → ixD M2 (.v (.ref w)) (.str "draws") = some (.ref r) := fun M2 j e => by
    unfold ixD
    simp only [e, wO]
    simp [isKey, isKeyK, dget]
  have hlen : ∀ M2 : Mem, M2[r]? = some (.lst (ds.map .int)) → lenOf M2 (.v (.ref r)) = some ds.length := fun M2 e => by
    unfold lenOf
    simp only [e]
    simp
  have hget : ∀ M2 : Mem, M2[r]? = some (.lst (ds.map .int)) → ixD M2 (.v (.ref r)) (.int n) = (ds[n]?).map D.int := fun M2 e => by
    unfold ixD
    simp only [e]
    exact atI_map ds n
  have hfin : ∀ x : Int, fin M (.int x) (M.set w (wO r (n + 1))) = (.int x, M.set w (wO r (n + 1))) := fun x => by
    unfold fin
    have : (M.set w (wO r (n + 1))).take M.length = M.set w (wO r (n + 1)) := List.take_of_length_le (by simp)
    rw [this]
    split <;> rfl
  by_cases hn : n < ds.length
  · have hx : ds[n]? = some ds[n] := List.getElem?_eq_getElem hn
    have hlt : ¬ ((ds.length : Int) < (n : Int) + 1) := by omega
    simp [bNext, exs, ex, evD, evB, ev, evas, toD, toB, opi, opI, biA, un1, biLen, biInt, op2, hat _ _ hw, hset, hat _ _ h2, hdr _ _ h2, hlen _ h3, hget _ h3, hx, hlt, hm, nxt, hfin]
  · have hx : ds[n]? = none := List.getElem?_eq_none (by omega)
    have hlt : ((ds.length : Int) < (n : Int) + 1) := by omega
    simp [bNext, exs, ex, evD, evB, ev, evas, toD, toB, opi, opI, biA, un1, biLen, biInt, op2, hat _ _ hw, hset, hat _ _ h2, hdr _ _ h2, hlen _ h3, hget _ h3, hx, hlt, hm, nxt, hfin]
end
end Ev
namespace Ev
open PySem
section
variable [Tab] {P : List FD} {i k : Nat}
/-- .. upon nothing new -/
theorem fin_lo {M M' : Mem} {d : D} (hd : d.lo M.length = true) (h : ∀ j, j < M.length → M'[j]? = M[j]? ∨ ∃ o, M'[j]? = some o ∧ o.lo M.length = true) : fin M d M' = (d, M'.take M.length) := by
  unfold fin
  rw [if_pos]
  rw [hd, Bool.true_and, List.all_eq_true]
  intro j hj
  rcases h j (List.mem_range.mp hj) with e | ⟨o, e, q⟩
  · rw [e]; simp
  · rw [e]; simp [q]
theorem fin_app {M X : Mem} {d : D} (hd : d.lo M.length = true) : fin M d (M ++ X) = (d, M) := by
  rw [fin_lo hd fun j hj => .inl (List.getElem?_append_left hj), List.take_left']
  rfl
theorem fin_self {M : Mem} {d : D} : fin M d M = (d, M) := by
  unfold fin
  rw [List.take_length]
  split <;> rfl
/-! ### loops -/
theorem lc_pure {body : D → Mem → Option (Option D × Mem)} {g : Option (Nat × MO)} {M : Mem} (f : D → Option D) (hg : still M g = true) : ∀ {ds : List D}, (∀ d ∈ ds, body d M = some (f d, M)) → lcLoop body g ds M = some (ds.filterMap f, M)
  | [], _ => by unfold lcLoop; rw [if_pos hg]; rfl
  | d :: ds, h => by
    unfold lcLoop
    rw [if_pos hg, h d List.mem_cons_self, bnd_some, lc_pure f hg fun e he => h e (List.mem_cons_of_mem _ he), bnd_some, List.filterMap_cons]
    cases f d <;> rfl
theorem lc_ok {body : D → Mem → Option (Option D × Mem)} {g : Option (Nat × MO)} (I : Nat → List D → Mem → Prop) (hg : ∀ j acc M, I j acc M → still M g = true) :
    ∀ {ds : List D} {j : Nat} {acc : List D} {M : Mem}, (∀ i d acc M, ds[i]? = some d → I (j + i) acc M → ∃ r M', body d M = some (r, M') ∧ I (j + i + 1) (acc ++ r.toList) M') → I j acc M → ∃ rs M', lcLoop body g ds M = some (rs, M') ∧ I (j + ds.length) (acc ++ rs) M'
  | [], j, acc, M, _, h => ⟨[], M, by unfold lcLoop; rw [if_pos (hg _ _ _ h)], by simpa using h⟩
  | d :: ds, j, acc, M, hb, h => by
    obtain ⟨r, M', h1, h2⟩ := hb 0 d acc M rfl h
    obtain ⟨rs, M2, h3, h4⟩ := lc_ok I hg (ds := ds) (j := j + 1) (acc := acc ++ r.toList) (M := M') (fun i e acc M he hi => by
      have := hb (i + 1) e acc M (by simpa using he) (by rw [show j + (i + 1) = j + 1 + i by omega]; exact hi)
      rw [show j + (i + 1) + 1 = j + 1 + i + 1 by omega] at this
      exact this) (by simpa using h2)
    refine ⟨r.toList ++ rs, M2, ?_, ?_⟩
    · unfold lcLoop
      rw [if_pos (hg _ _ _ h), h1, bnd_some, h3, bnd_some]
      cases r <;> rfl
    · rw [List.length_cons, show j + (ds.length + 1) = j + 1 + ds.length by omega, ← List.append_assoc]
      exact h4
theorem for_ok {b : D → Env → Mem → Option ((Fl × Env) × Mem)} {g : Option (Nat × MO)} (I : Nat → Env → Mem → Prop) (hg : ∀ j v M, I j v M → still M g = true) :
    ∀ {ds : List D} {j : Nat} {v : Env} {M : Mem}, (∀ i d v M, ds[i]? = some d → I (j + i) v M → ∃ v' M', (b d v M = some ((.nx, v'), M') ∨ b d v M = some ((.ct, v'), M')) ∧ I (j + i + 1) v' M') → I j v M → ∃ v' M', forL b g ds v M = some ((.nx, v'), M') ∧ I (j + ds.length) v' M'
  | [], j, v, M, _, h => ⟨v, M, by unfold forL; rw [if_pos (hg _ _ _ h)], by simpa using h⟩
  | d :: ds, j, v, M, hb, h => by
    obtain ⟨v1, M1, h1, h2⟩ := hb 0 d v M rfl h
    obtain ⟨v2, M2, h3, h4⟩ := for_ok I hg (ds := ds) (j := j + 1) (v := v1) (M := M1) (fun i e v M he hi => by
      have := hb (i + 1) e v M (by simpa using he) (by rw [show j + (i + 1) = j + 1 + i by omega]; exact hi)
      rw [show j + (i + 1) + 1 = j + 1 + i + 1 by omega] at this
      exact this) (by simpa using h2)
    refine ⟨v2, M2, ?_, ?_⟩
    · unfold forL
      rw [if_pos (hg _ _ _ h)]
      rcases h1 with h1 | h1 <;> rw [h1, bnd_some] <;> exact h3
    · rw [List.length_cons, show j + (ds.length + 1) = j + 1 + ds.length by omega]
      exact h4
theorem rng_ok {cf : Cf} {a b : E} {v : Env} {M M1 M2 : Mem} {x y : Int} (ha : ev cf a v M = some (.v (.int x), M1)) (hb : ev cf b v M1 = some (.v (.int y), M2)) (h : -1000000 ≤ x ∧ x ≤ 10000000 ∧ -1000000 ≤ y ∧ y ≤ 10000000) : evIt cf (.rng a b) v M = some ((rangeD x y, none), M2) := by
  unfold evIt
  rw [ha, bnd_some, hb, bnd_some]
  have : line = 16000000 := rfl
  dsimp only
  rw [if_pos (by omega)]
theorem rangeD_at {x y : Int} {j : Nat} {d : D} (h : (rangeD x y)[j]? = some d) : d = .int (x + j) ∧ x + j < y := by
  unfold rangeD at h
  rw [List.getElem?_map] at h
  obtain ⟨z, h1, h2⟩ := Option.map_eq_some_iff.mp h
  obtain ⟨hl, h1⟩ := List.getElem?_eq_some_iff.mp h1
  rw [List.length_range] at hl
  rw [List.getElem_range] at h1
  subst h1
  exact ⟨h2.symm, by omega⟩
theorem rangeD_mem {x y : Int} {d : D} (h : d ∈ rangeD x y) : ∃ z : Int, d = .int z ∧ x ≤ z ∧ z < y := by
  obtain ⟨j, hj⟩ := List.getElem?_of_mem h
  obtain ⟨e, l⟩ := rangeD_at hj
  exact ⟨_, e, by omega, l⟩
theorem rangeD_len {x y : Int} : (rangeD x y).length = (y - x).toNat := by simp [rangeD]
theorem atI_nat {α : Type} (ds : List α) (n : Nat) : L2.atI ds (n : Int) = ds[n]? := by
  unfold L2.atI L2.ixN
  rw [if_pos (Int.natCast_nonneg n)]
  by_cases h : n < ds.length
  · rw [if_pos (by omega)]
    simp
  · rw [if_neg (by omega)]
    simp at h
    simp [h]
theorem atI_pos {α : Type} {ds : List α} {i : Int} (h0 : 0 ≤ i) (h : i.toNat < ds.length) : L2.atI ds i = some ds[i.toNat] := by
  obtain ⟨n, rfl⟩ := Int.eq_ofNat_of_zero_le h0
  exact (atI_nat ds n).trans (List.getElem?_eq_getElem h)
/-! ### _law_pick -/
def bPick (j : Nat) : Ss := (.cons (.ret (.ix (.var 1) (.call j (.cons (.var 0) (.cons (.bi .len (.cons (.var 1) .nil)) .nil))))) .nil)
theorem nxt_lt {ds : List Int} {n : Nat} {m : Int} (hm : 0 < m) : 0 ≤ nxt ds n m ∧ nxt ds n m < m := by
  unfold nxt
  split
  · exact ⟨Int.emod_nonneg _ (by omega), Int.emod_lt_of_pos _ hm⟩
  · exact ⟨Int.le_refl _, hm⟩
theorem pick_ref {jn : Nat} (h : P[i]? = some ⟨2, 2, bPick jn⟩) (hn : P[jn]? = some ⟨2, 2, bNext⟩) {M : Mem} {w r n q : Nat} {ds : List Int} {xs : List D} (hw : M[w]? = some (wO r n)) (hr : M[r]? = some (.lst (ds.map .int))) (hq : M[q]? = some (.lst xs)) (hx : xs ≠ []) (hxl : D.los M.length xs = true) (hl : ds.length ≤ line) :
    ∃ x, xs[(nxt ds n xs.length).toNat]? = some x ∧ callAt P (k + 2) i [.ref w, .ref q] M = some (x, M.set w (wO r (n + 1))) := by
  have hpos : (0 : Int) < xs.length := by
    cases xs with
    | nil => exact absurd rfl hx
    | cons a l => simp only [List.length_cons]; omega
  obtain ⟨b1, b2⟩ := nxt_lt (ds := ds) (n := n) hpos
  have hi : (nxt ds n xs.length).toNat < xs.length := by omega
  refine ⟨xs[(nxt ds n xs.length).toNat], List.getElem?_eq_getElem hi, ?_⟩
  unfold callAt
  rw [h]
  have hqw : q ≠ w := fun e => by subst e; rw [hw] at hq; cases hq
  have hlen : lenOf M (.v (.ref q)) = some xs.length := by
    unfold lenOf
    simp only [hq]
  have hq2 : (M.set w (wO r (n + 1)))[q]? = some (.lst xs) := by rw [List.getElem?_set_ne (Ne.symm hqw)]; exact hq
  have hget : ixD (M.set w (wO r (n + 1))) (.v (.ref q)) (.int (nxt ds n xs.length)) = some xs[(nxt ds n xs.length).toNat] := by
    unfold ixD
    simp only [hq2]
    exact atI_pos b1 hi
  have hxlo : (xs[(nxt ds n xs.length).toNat]).lo M.length = true := by
    have : ∀ (l : List D) (m : Nat), D.los m l = true → ∀ d ∈ l, d.lo m = true := by
      intro l
      induction l with
      | nil => intro m _ d hd; cases hd
      | cons a l ih =>
        intro m hm d hd
        rw [D.los, Bool.and_eq_true] at hm
        rcases List.mem_cons.mp hd with rfl | hd
        · exact hm.1
        · exact ih m hm.2 d hd
    exact this xs _ hxl _ (List.getElem_mem hi)
  have hfin : fin M xs[(nxt ds n xs.length).toNat] (M.set w (wO r (n + 1))) = (xs[(nxt ds n xs.length).toNat], M.set w (wO r (n + 1))) := by
    unfold fin
    have : (M.set w (wO r (n + 1))).take M.length = M.set w (wO r (n + 1)) := List.take_of_length_le (by simp)
    rw [this]
    split <;> rfl
  simp [bPick, exs, ex, evD, ev, evs, evas, toD, biA, un1, biLen, hlen, next_ok hn hw hr hpos hl, hget, hfin]
/-! ### _law_alike -/
def bAlike (j : Nat) : Ss := (.cons (.ite (.isi (.var 1) .tuple) (.cons (.ite (.or (.not (.isi (.var 0) .tuple)) (.op .ne (.bi .len (.cons (.var 0) .nil)) (.bi .len (.cons (.var 1) .nil)))) (.cons (.ret (.cst (.bl false))) .nil) .nil) (.cons (.ret (.op .eq (.lc (.var 2) (.nm 2) (.rng (.cst (.int 0)) (.bi .len (.cons (.var 1) .nil))) (.not (.call j (.cons (.ix (.var 0) (.var 2)) (.cons (.ix (.var 1) (.var 2)) .nil)))) [2]) (.lst .nil))) .nil)) .nil) (.cons (.ite (.op .is (.var 1) (.cst .non)) (.cons (.ret (.op .is (.var 0) (.cst .non))) .nil) .nil) (.cons (.ite (.isi (.var 1) .bool) (.cons (.ret (.and (.isi (.var 0) .bool) (.op .eq (.var 0) (.var 1)))) .nil) .nil) (.cons (.ite (.isi (.var 1) .int) (.cons (.ret (.and (.isi (.var 0) .int) (.and (.not (.isi (.var 0) .bool)) (.op .eq (.var 0) (.var 1))))) .nil) .nil) (.cons (.ret (.and (.isi (.var 0) .str) (.op .eq (.var 0) (.var 1)))) .nil)))))
/-- data of so many layers: none, bools, ints, texts, tuples -/
def Flat (d : D) : Prop := d = .non ∨ (∃ b, d = .bl b) ∨ (∃ i, d = .int i) ∨ ∃ x, d = .str x ∧ PyData.canLay0 (.str x) = true
def Fit : Nat → D → Prop
  | 0, d => Flat d
  | n + 1, d => Flat d ∨ ∃ ds, d = .tup ds ∧ ds.length ≤ 1000000 ∧ ∀ e ∈ ds, Fit n e
theorem Flat.fit {d : D} (h : Flat d) : ∀ n, Fit n d
  | 0 => h
  | _ + 1 => .inl h
theorem alike_flat {jn : Nat} (h : P[i]? = some ⟨2, 3, bAlike jn⟩) {d : D} (hd : Flat d) (M : Mem) : callAt P (k + 1) i [d, d] M = some (.bl true, M) := by
  unfold callAt
  rw [h]
  rcases hd with rfl | ⟨b, rfl⟩ | ⟨j, rfl⟩ | ⟨x, rfl, hx⟩
  · simp [bAlike, exs, ex, evD, evB, ev, evs, evas, toD, toB, isTyA, isTy, op2, fin_self]
  · simp [bAlike, exs, ex, evD, evB, ev, evs, evas, toD, toB, isTyA, isTy, op2, eqA, pyOf, D.pure, D.py, SeqAt.shaped, PyData.canLay0, PyData.depth, PyData.eqv, fin_self]
  · simp [bAlike, exs, ex, evD, evB, ev, evs, evas, toD, toB, isTyA, isTy, op2, eqA, pyOf, D.pure, D.py, SeqAt.shaped, PyData.canLay0, PyData.depth, PyData.eqv, fin_self]
  · simp [bAlike, exs, ex, evD, evB, ev, evs, evas, toD, toB, isTyA, isTy, op2, eqA, pyOf, D.pure, D.py, SeqAt.shaped, hx, PyData.depth, PyData.eqv, fin_self]
end
end Ev
namespace Ev
open PySem
/-! ### the evaluator by steps: what is done with a part's value has a name of its own -/
section
variable [Tab]
def kOp2 (o : Op2) (x : A) : A → Mem → Option (A × Mem) := fun y M => op2 o x y M
def kOp (cf : Cf) (o : Op2) (b : E) (v : Env) : A → Mem → Option (A × Mem) := fun x M => bnd (ev cf b v M) (kOp2 o x)
def kCh3 (p : Op2) (y : A) : A → Mem → Option (A × Mem) := fun z M => op2 p y z M
def kCh2 (cf : Cf) (p : Op2) (c : E) (v : Env) (y : A) : A → Mem → Option (A × Mem) := fun r M => match r with
  | .v (.bl true) => bnd (ev cf c v M) (kCh3 p y)
  | .v (.bl false) => some (.v (.bl false), M)
  | _ => none
def kCh1 (cf : Cf) (o p : Op2) (c : E) (v : Env) (x : A) : A → Mem → Option (A × Mem) := fun y M => bnd (op2 o x y M) (kCh2 cf p c v y)
def kCh (cf : Cf) (o p : Op2) (b c : E) (v : Env) : A → Mem → Option (A × Mem) := fun x M => bnd (ev cf b v M) (kCh1 cf o p c v x)
def kNeg : A → Mem → Option (A × Mem) := fun x M => match x with
  | .v (.int i) => some (.v (.int (-i)), M)
  | _ => none
def kNot : A → Mem → Option (A × Mem) := fun x M => bnd (toB x M) fun b M => some (.v (.bl (!b)), M)
def kAnd (cf : Cf) (b : E) (v : Env) : A → Mem → Option (A × Mem) := fun x M => bnd (toB x M) fun c M => if c = true then ev cf b v M else some (.v (.bl false), M)
def kOr (cf : Cf) (b : E) (v : Env) : A → Mem → Option (A × Mem) := fun x M => bnd (toB x M) fun c M => if c = true then some (.v (.bl true), M) else ev cf b v M
def kIte (cf : Cf) (a b : E) (v : Env) : A → Mem → Option (A × Mem) := fun x M => bnd (toB x M) fun c M => if c = true then ev cf a v M else ev cf b v M
def kTup : List D → Mem → Option (A × Mem) := fun ds M => if ds.length ≤ line then some (.v (.tup ds), M) else none
def kLst : List D → Mem → Option (A × Mem) := fun ds M => if ds.length ≤ line then some (.l ds, M) else none
def kDic (t : Bool) : List D → Mem → Option (A × Mem) := fun ds M => match pairUp ds with
    | some kvs => if kvs.length ≤ 15 ∧ kvs.all (fun p => isKey t p.1) = true then some (.v (.ref M.length), M ++ [.dic t (dmerge [] kvs)]) else none
    | none => none
def kIx2 (x : A) : A → Mem → Option (A × Mem) := fun y M => match y with
    | .v k => (ixD M x k).map fun d => (.v d, M)
    | .l _ => none
def kIx (cf : Cf) (b : E) (v : Env) : A → Mem → Option (A × Mem) := fun x M => bnd (ev cf b v M) (kIx2 x)
def kSl3 (x l : A) : A → Mem → Option (A × Mem) := fun h M => match l, h with
    | .v l, .v h => match optI l, optI h with
      | some l, some h => (slA M x l h).map fun r => (r, M)
      | _, _ => none
    | _, _ => none
def kSl2 (cf : Cf) (hi : E) (v : Env) (x : A) : A → Mem → Option (A × Mem) := fun l M => bnd (ev cf hi v M) (kSl3 x l)
def kSl (cf : Cf) (lo hi : E) (v : Env) : A → Mem → Option (A × Mem) := fun x M => bnd (ev cf lo v M) (kSl2 cf hi v x)
def kV : D → Mem → Option (A × Mem) := fun d M => some (.v d, M)
def kCall (cf : Cf) (f : Nat) : List D → Mem → Option (A × Mem) := fun ds M => bnd (cf.call f ds M) kV
def kMth2 (M0 : Mem) (n : Nat) (b : BM) : List A → Mem → Option (A × Mem) := fun as M2 => match M2[n]? with
  | some o => if some (kindM o) = (M0[n]?).map kindM then bmA n o b as M2 else none
  | none => none
def kMth1 (cf : Cf) (n f : Nat) : List D → Mem → Option (A × Mem) := fun ds M => bnd (cf.call f (.ref n :: ds) M) kV
def kMth (cf : Cf) (m : Option Nat) (b : Option BM) (es : Es) (v : Env) : A → Mem → Option (A × Mem) := fun x M => match x with
    | .v (.ref n) => match M[n]? with
      | some (.ins C fs) => match m with
        | some m => if (fs.lookup m).isNone then match Tab.mt.lookup (C, m) with
            | some f => bnd (evs cf es v M) (kMth1 cf n f)
            | none => none
          else none
        | none => none
      | some _ => match b with
        | some b => bnd (evas cf es v M) (kMth2 M n b)
        | none => none
      | none => none
    | _ => none
def kBi (f : BI) : List A → Mem → Option (A × Mem) := fun as M => biA f as M
def kFld (f : Nat) : A → Mem → Option (A × Mem) := fun x M => match x with
  | .v d => (getF M d f).map fun y => (.v y, M)
  | _ => none
def kIsi (t : Ty) : A → Mem → Option (A × Mem) := fun x M => (isTyA M t x).map fun b => (.v (.bl b), M)
def lcBody2 (cf : Cf) (e : E) (v2 : Env) : A → Mem → Option (Option D × Mem) := fun x M => bnd (toB x M) fun b M => if b = true then bnd (ev cf e v2 M) fun y M => bnd (toD y M) fun y M => some (some y, M) else some (none, M)
def lcBody (cf : Cf) (e : E) (t : Tg) (c : E) (own : List Nat) (v : Env) : D → Mem → Option (Option D × Mem) := fun d M => match asgT t d (wipeE v own) with
      | some v2 => bnd (ev cf c v2 M) (lcBody2 cf e v2)
      | none => none
def kLc2 : List D → Mem → Option (A × Mem) := fun ds M => some (.l ds, M)
def kLc (cf : Cf) (e : E) (t : Tg) (c : E) (own : List Nat) (v : Env) : (List D × Option (Nat × MO)) → Mem → Option (A × Mem) := fun p M => bnd (lcLoop (lcBody cf e t c own v) p.2 p.1 M) kLc2
def kCons2 (d : D) : List D → Mem → Option (List D × Mem) := fun ds M => some (d :: ds, M)
def kCons1 (cf : Cf) (es : Es) (v : Env) : D → Mem → Option (List D × Mem) := fun d M => bnd (evs cf es v M) (kCons2 d)
def kCons (cf : Cf) (es : Es) (v : Env) : A → Mem → Option (List D × Mem) := fun x M => bnd (toD x M) (kCons1 cf es v)
def kACons2 (d : A) : List A → Mem → Option (List A × Mem) := fun ds M => some (d :: ds, M)
def kACons (cf : Cf) (es : Es) (v : Env) : A → Mem → Option (List A × Mem) := fun d M => bnd (evas cf es v M) (kACons2 d)
variable {cf : Cf} {v : Env} {M : Mem}
@[simp] theorem ev_var (i : Nat) : ev cf (.var i) v M = match v[i]? with
    | some (some d) => some (.v d, M)
    | _ => none := by unfold ev; rfl
@[simp] theorem ev_cst (d : D) : ev cf (.cst d) v M = some (.v d, M) := by unfold ev; rfl
@[simp] theorem ev_op (o : Op2) (a b : E) : ev cf (.op o a b) v M = bnd (ev cf a v M) (kOp cf o b v) := by rw [ev]; rfl
@[simp] theorem ev_chain (o p : Op2) (a b c : E) : ev cf (.chain o p a b c) v M = bnd (ev cf a v M) (kCh cf o p b c v) := by rw [ev]; rfl
@[simp] theorem ev_neg (a : E) : ev cf (.neg a) v M = bnd (ev cf a v M) kNeg := by rw [ev]; rfl
@[simp] theorem ev_not (a : E) : ev cf (.not a) v M = bnd (ev cf a v M) kNot := by rw [ev]; rfl
@[simp] theorem ev_and (a b : E) : ev cf (.and a b) v M = bnd (ev cf a v M) (kAnd cf b v) := by rw [ev]; rfl
@[simp] theorem ev_or (a b : E) : ev cf (.or a b) v M = bnd (ev cf a v M) (kOr cf b v) := by rw [ev]; rfl
@[simp] theorem ev_ite (a b c : E) : ev cf (.ite c a b) v M = bnd (ev cf c v M) (kIte cf a b v) := by rw [ev]; rfl
@[simp] theorem ev_tup (es : Es) : ev cf (.tup es) v M = bnd (evs cf es v M) kTup := by rw [ev]; rfl
@[simp] theorem ev_lst (es : Es) : ev cf (.lst es) v M = bnd (evs cf es v M) kLst := by rw [ev]; rfl
@[simp] theorem ev_dic (t : Bool) (es : Es) : ev cf (.dic t es) v M = bnd (evs cf es v M) (kDic t) := by rw [ev]; rfl
@[simp] theorem ev_ix (a b : E) : ev cf (.ix a b) v M = bnd (ev cf a v M) (kIx cf b v) := by rw [ev]; rfl
@[simp] theorem ev_sl (a lo hi : E) : ev cf (.sl a lo hi) v M = bnd (ev cf a v M) (kSl cf lo hi v) := by rw [ev]; rfl
@[simp] theorem ev_call (f : Nat) (es : Es) : ev cf (.call f es) v M = bnd (evs cf es v M) (kCall cf f) := by rw [ev]; rfl
@[simp] theorem ev_meth (o : E) (m : Option Nat) (b : Option BM) (es : Es) : ev cf (.meth o m b es) v M = bnd (ev cf o v M) (kMth cf m b es v) := by rw [ev]; rfl
@[simp] theorem ev_bi (f : BI) (es : Es) : ev cf (.bi f es) v M = bnd (evas cf es v M) (kBi f) := by rw [ev]; rfl
@[simp] theorem ev_fld (o : E) (f : Nat) : ev cf (.fld o f) v M = bnd (ev cf o v M) (kFld f) := by rw [ev]; rfl
@[simp] theorem ev_isi (a : E) (t : Ty) : ev cf (.isi a t) v M = bnd (ev cf a v M) (kIsi t) := by rw [ev]; rfl
@[simp] theorem ev_lc (e : E) (t : Tg) (it : It) (c : E) (own : List Nat) : ev cf (.lc e t it c own) v M = bnd (evIt cf it v M) (kLc cf e t c own v) := by rw [ev]; rfl
@[simp] theorem evs_nil : evs cf .nil v M = some ([], M) := by rw [evs]
@[simp] theorem evs_cons (e : E) (es : Es) : evs cf (.cons e es) v M = bnd (ev cf e v M) (kCons cf es v) := by rw [evs]; rfl
@[simp] theorem evas_nil : evas cf .nil v M = some ([], M) := by rw [evas]
@[simp] theorem evas_cons (e : E) (es : Es) : evas cf (.cons e es) v M = bnd (ev cf e v M) (kACons cf es v) := by rw [evas]; rfl
@[simp] theorem kOp_ap (o : Op2) (b : E) (x : A) : kOp cf o b v x M = bnd (ev cf b v M) (kOp2 o x) := (rfl)
@[simp] theorem kOp2_ap (o : Op2) (x y : A) : kOp2 o x y M = op2 o x y M := (rfl)
@[simp] theorem kCh_ap (o p : Op2) (b c : E) (x : A) : kCh cf o p b c v x M = bnd (ev cf b v M) (kCh1 cf o p c v x) := (rfl)
@[simp] theorem kCh1_ap (o p : Op2) (c : E) (x y : A) : kCh1 cf o p c v x y M = bnd (op2 o x y M) (kCh2 cf p c v y) := (rfl)
@[simp] theorem kCh2_ap (p : Op2) (c : E) (y : A) (b : Bool) : kCh2 cf p c v y (.v (.bl b)) M = if b = true then bnd (ev cf c v M) (kCh3 p y) else some (.v (.bl false), M) := by cases b <;> rfl
@[simp] theorem kCh3_ap (p : Op2) (y z : A) : kCh3 p y z M = op2 p y z M := (rfl)
@[simp] theorem kNeg_ap (i : Int) : kNeg (.v (.int i)) M = some (.v (.int (-i)), M) := (rfl)
@[simp] theorem kNot_ap (b : Bool) : kNot (.v (.bl b)) M = some (.v (.bl (!b)), M) := (rfl)
@[simp] theorem kAnd_ap (b : E) (c : Bool) : kAnd cf b v (.v (.bl c)) M = if c = true then ev cf b v M else some (.v (.bl false), M) := (rfl)
@[simp] theorem kOr_ap (b : E) (c : Bool) : kOr cf b v (.v (.bl c)) M = if c = true then some (.v (.bl true), M) else ev cf b v M := (rfl)
@[simp] theorem kIte_ap (a b : E) (c : Bool) : kIte cf a b v (.v (.bl c)) M = if c = true then ev cf a v M else ev cf b v M := (rfl)
@[simp] theorem kTup_ap (ds : List D) : kTup ds M = if ds.length ≤ line then some (.v (.tup ds), M) else none := (rfl)
@[simp] theorem kLst_ap (ds : List D) : kLst ds M = if ds.length ≤ line then some (.l ds, M) else none := (rfl)
@[simp] theorem kDic_nil (t : Bool) : kDic t [] M = some (.v (.ref M.length), M ++ [.dic t []]) := (rfl)
@[simp] theorem kIx_ap (b : E) (x : A) : kIx cf b v x M = bnd (ev cf b v M) (kIx2 x) := (rfl)
@[simp] theorem kIx2_ap (x : A) (d : D) : kIx2 x (.v d) M = (ixD M x d).map fun d => (.v d, M) := (rfl)
@[simp] theorem kSl_ap (lo hi : E) (x : A) : kSl cf lo hi v x M = bnd (ev cf lo v M) (kSl2 cf hi v x) := (rfl)
@[simp] theorem kSl2_ap (hi : E) (x l : A) : kSl2 cf hi v x l M = bnd (ev cf hi v M) (kSl3 x l) := (rfl)
@[simp] theorem kSl3_ni (x : A) (i : Int) : kSl3 x (.v .non) (.v (.int i)) M = (slA M x none (some i)).map fun r => (r, M) := (rfl)
@[simp] theorem kSl3_in (x : A) (i : Int) : kSl3 x (.v (.int i)) (.v .non) M = (slA M x (some i) none).map fun r => (r, M) := (rfl)
@[simp] theorem kSl3_ii (x : A) (i j : Int) : kSl3 x (.v (.int i)) (.v (.int j)) M = (slA M x (some i) (some j)).map fun r => (r, M) := (rfl)
@[simp] theorem kSl3_nn (x : A) : kSl3 x (.v .non) (.v .non) M = (slA M x none none).map fun r => (r, M) := (rfl)
@[simp] theorem kV_ap (d : D) : kV d M = some (.v d, M) := (rfl)
@[simp] theorem kCall_ap (f : Nat) (ds : List D) : kCall cf f ds M = bnd (cf.call f ds M) kV := (rfl)
@[simp] theorem kBi_ap (f : BI) (as : List A) : kBi f as M = biA f as M := (rfl)
@[simp] theorem kFld_ap (f : Nat) (d : D) : kFld f (.v d) M = (getF M d f).map fun y => (.v y, M) := (rfl)
@[simp] theorem kIsi_ap (t : Ty) (x : A) : kIsi t x M = (isTyA M t x).map fun b => (.v (.bl b), M) := (rfl)
@[simp] theorem kLc_ap (e : E) (t : Tg) (c : E) (own : List Nat) (p : List D × Option (Nat × MO)) : kLc cf e t c own v p M = bnd (lcLoop (lcBody cf e t c own v) p.2 p.1 M) kLc2 := (rfl)
@[simp] theorem kLc2_ap (ds : List D) : kLc2 ds M = some (.l ds, M) := (rfl)
@[simp] theorem kCons_ap (es : Es) (x : A) : kCons cf es v x M = bnd (toD x M) (kCons1 cf es v) := (rfl)
@[simp] theorem kCons1_ap (es : Es) (d : D) : kCons1 cf es v d M = bnd (evs cf es v M) (kCons2 d) := (rfl)
@[simp] theorem kCons2_ap (d : D) (ds : List D) : kCons2 d ds M = some (d :: ds, M) := (rfl)
@[simp] theorem kACons_ap (es : Es) (x : A) : kACons cf es v x M = bnd (evas cf es v M) (kACons2 x) := (rfl)
@[simp] theorem kACons2_ap (d : A) (ds : List A) : kACons2 d ds M = some (d :: ds, M) := (rfl)
@[simp] theorem toD_v (d : D) : toD (.v d) M = some (d, M) := (rfl)
@[simp] theorem toD_l (ds : List D) : toD (.l ds) M = some (.ref M.length, M ++ [.lst ds]) := (rfl)
@[simp] theorem toB_ap (b : Bool) : toB (.v (.bl b)) M = some (b, M) := (rfl)
@[simp] theorem lcBody2_ap (e : E) (b : Bool) : lcBody2 cf e v (.v (.bl b)) M = if b = true then bnd (ev cf e v M) fun y M => bnd (toD y M) fun y M => some (some y, M) else some (none, M) := (rfl)
theorem lcBody_ap (e : E) (t : Tg) (c : E) (own : List Nat) (d : D) : lcBody cf e t c own v d M = match asgT t d (wipeE v own) with
      | some v2 => bnd (ev cf c v2 M) (lcBody2 cf e v2)
      | none => none := rfl
@[simp] theorem asgT_nm (i : Nat) (d : D) : asgT (.nm i) d v = if i < v.length then some (v.set i (some d)) else none := by rw [asgT]
/-! statements -/
def kD1 : Env → D → Mem → Option ((Fl × Env) × Mem) := fun v d M => some ((.rt d, v), M)
def kNx (v : Env) : A → Mem → Option ((Fl × Env) × Mem) := fun _ M => some ((.nx, v), M)
def kAsg2 : Env → Mem → Option ((Fl × Env) × Mem) := fun v M => some ((.nx, v), M)
def kAsg (cf : Cf) (t : TgS) (v : Env) : D → Mem → Option ((Fl × Env) × Mem) := fun d M => bnd (asgS cf t d v M) kAsg2
def kAug2 (v : Env) (i : Nat) : D → Mem → Option ((Fl × Env) × Mem) := fun d M => some ((.nx, v.set i (some d)), M)
def kAug (v : Env) (i : Nat) (o : Op2) (x : D) : A → Mem → Option ((Fl × Env) × Mem) := fun y M => bnd (opi o x y M) (kAug2 v i)
def kIteS (cf : Cf) (a b : Ss) (v : Env) : Bool → Mem → Option ((Fl × Env) × Mem) := fun t M => if t = true then exs cf a v M else exs cf b v M
def forBody (cf : Cf) (t : Tg) (b : Ss) : D → Env → Mem → Option ((Fl × Env) × Mem) := fun d v M => match asgT t d v with
      | some v => exs cf b v M
      | none => none
def kFor (cf : Cf) (t : Tg) (b : Ss) (v : Env) : (List D × Option (Nat × MO)) → Mem → Option ((Fl × Env) × Mem) := fun p M => forL (forBody cf t b) p.2 p.1 v M
def kSs (cf : Cf) (ss : Ss) : (Fl × Env) → Mem → Option ((Fl × Env) × Mem) := fun r M => match r with
    | (.nx, v) => exs cf ss v M
    | r => some (r, M)
def kFin (M : Mem) : (Fl × Env) → Mem → Option (D × Mem) := fun r M' => match r with
          | (.rt d, _) => some (fin M d M')
          | (.nx, _) => some (fin M .non M')
          | _ => none
def kSub2 (d a : D) (v : Env) : D → Mem → Option (Env × Mem) := fun k M => (setI M a k d).map fun M => (v, M)
def kSub (cf : Cf) (i : E) (d : D) (v : Env) : D → Mem → Option (Env × Mem) := fun a M => bnd (evD cf i v M) (kSub2 d a v)
@[simp] theorem evD_eq (e : E) : evD cf e v M = bnd (ev cf e v M) toD := (rfl)
@[simp] theorem evB_eq' (e : E) : evB cf e v M = bnd (ev cf e v M) toB := (rfl)
@[simp] theorem exs_nil : exs cf .nil v M = some ((.nx, v), M) := by rw [exs]
@[simp] theorem exs_cons (s : S) (ss : Ss) : exs cf (.cons s ss) v M = bnd (ex cf s v M) (kSs cf ss) := by rw [exs]; rfl
@[simp] theorem kSs_nx (ss : Ss) : kSs cf ss (.nx, v) M = exs cf ss v M := (rfl)
@[simp] theorem kSs_rt (ss : Ss) (d : D) : kSs cf ss (.rt d, v) M = some ((.rt d, v), M) := (rfl)
@[simp] theorem kSs_bk (ss : Ss) : kSs cf ss (.bk, v) M = some ((.bk, v), M) := (rfl)
@[simp] theorem kSs_ct (ss : Ss) : kSs cf ss (.ct, v) M = some ((.ct, v), M) := (rfl)
@[simp] theorem ex_expr (e : E) : ex cf (.expr e) v M = bnd (ev cf e v M) (kNx v) := by rw [ex]; rfl
@[simp] theorem kNx_ap (x : A) : kNx v x M = some ((.nx, v), M) := (rfl)
@[simp] theorem ex_ret (e : E) : ex cf (.ret e) v M = bnd (evD cf e v M) (kD1 v) := by rw [ex]; rfl
@[simp] theorem kD1_ap (d : D) : kD1 v d M = some ((.rt d, v), M) := (rfl)
@[simp] theorem ex_pass : ex cf .pass v M = some ((.nx, v), M) := by rw [ex]
@[simp] theorem ex_brk : ex cf .brk v M = some ((.bk, v), M) := by rw [ex]
@[simp] theorem ex_cont : ex cf .cont v M = some ((.ct, v), M) := by rw [ex]
@[simp] theorem ex_asg (t : TgS) (e : E) : ex cf (.asg t e) v M = bnd (evD cf e v M) (kAsg cf t v) := by rw [ex]; rfl
@[simp] theorem kAsg_ap (t : TgS) (d : D) : kAsg cf t v d M = bnd (asgS cf t d v M) kAsg2 := (rfl)
@[simp] theorem kAsg2_ap : kAsg2 v M = some ((.nx, v), M) := (rfl)
@[simp] theorem asgS_tg (t : Tg) (d : D) : asgS cf (.tg t) d v M = (asgT t d v).map fun v => (v, M) := (rfl)
@[simp] theorem asgS_sub (o i : E) (d : D) : asgS cf (.sub o i) d v M = bnd (evD cf o v M) (kSub cf i d v) := (rfl)
@[simp] theorem kSub_ap (i : E) (d a : D) : kSub cf i d v a M = bnd (evD cf i v M) (kSub2 d a v) := (rfl)
@[simp] theorem kSub2_ap (d a k : D) : kSub2 d a v k M = (setI M a k d).map fun M => (v, M) := (rfl)
@[simp] theorem ex_ite (c : E) (a b : Ss) : ex cf (.ite c a b) v M = bnd (evB cf c v M) (kIteS cf a b v) := by rw [ex]; rfl
@[simp] theorem kIteS_ap (a b : Ss) (t : Bool) : kIteS cf a b v t M = if t = true then exs cf a v M else exs cf b v M := (rfl)
@[simp] theorem ex_for (t : Tg) (it : It) (b : Ss) : ex cf (.for t it b) v M = bnd (evIt cf it v M) (kFor cf t b v) := by rw [ex]; rfl
@[simp] theorem kFor_ap (t : Tg) (b : Ss) (p : List D × Option (Nat × MO)) : kFor cf t b v p M = forL (forBody cf t b) p.2 p.1 v M := (rfl)
@[simp] theorem ex_aug (i : Nat) (o : Op2) (e : E) : ex cf (.aug i o e) v M = match v[i]? with
    | some (some x) => bnd (ev cf e v M) (kAug v i o x)
    | _ => none := by rw [ex]; rfl
@[simp] theorem kAug_ap (i : Nat) (o : Op2) (x : D) (y : A) : kAug v i o x y M = bnd (opi o x y M) (kAug2 v i) := (rfl)
@[simp] theorem kAug2_ap (i : Nat) (d : D) : kAug2 v i d M = some ((.nx, v.set i (some d)), M) := (rfl)
theorem forBody_ap (t : Tg) (b : Ss) (d : D) : forBody cf t b d v M = match asgT t d v with
      | some v => exs cf b v M
      | none => none := rfl
@[simp] theorem kFin_rt (M0 : Mem) (d : D) : kFin M0 (.rt d, v) M = some (fin M0 d M) := (rfl)
@[simp] theorem kFin_nx (M0 : Mem) : kFin M0 (.nx, v) M = some (fin M0 .non M) := (rfl)
def cfA (P : List FD) (k : Nat) : Cf := ⟨callAt P k, iniOf (callAt P (k - 1))⟩
@[simp] theorem cfA_call (P : List FD) (k : Nat) : (cfA P k).call = callAt P k := (rfl)
theorem call_eq {P : List FD} {k i p n : Nat} {b : Ss} {ds : List D} (h : P[i]? = some ⟨p, n, b⟩) (hl : ds.length = p) : callAt P (k + 1) i ds M = bnd (exs (cfA P k) b (ds.map some ++ List.replicate (n - p) none) M) (kFin M) := by
  rw [callAt, h]
  show (if ds.length = p then _ else _) = _
  rw [if_pos hl]
  rfl
/-! values -/
@[simp] theorem op2_add (i j : Int) : op2 .add (.v (.int i)) (.v (.int j)) M = some (.v (.int (i + j)), M) := (rfl)
@[simp] theorem op2_sub (i j : Int) : op2 .sub (.v (.int i)) (.v (.int j)) M = some (.v (.int (i - j)), M) := (rfl)
@[simp] theorem op2_mul (i j : Int) : op2 .mul (.v (.int i)) (.v (.int j)) M = if mulOk i j = true then some (.v (.int (i * j)), M) else none := (rfl)
@[simp] theorem op2_fdiv (i j : Int) : op2 .fdiv (.v (.int i)) (.v (.int j)) M = if 0 < j ∧ j < 1073741824 then some (.v (.int (i / j)), M) else none := (rfl)
@[simp] theorem op2_mod (i j : Int) : op2 .mod (.v (.int i)) (.v (.int j)) M = if 0 < j then some (.v (.int (i % j)), M) else none := (rfl)
@[simp] theorem op2_lt (i j : Int) : op2 .lt (.v (.int i)) (.v (.int j)) M = some (.v (.bl (decide (i < j))), M) := (rfl)
@[simp] theorem op2_le (i j : Int) : op2 .le (.v (.int i)) (.v (.int j)) M = some (.v (.bl (decide (i ≤ j))), M) := (rfl)
@[simp] theorem op2_gt (i j : Int) : op2 .gt (.v (.int i)) (.v (.int j)) M = some (.v (.bl (decide (j < i))), M) := (rfl)
@[simp] theorem op2_ge (i j : Int) : op2 .ge (.v (.int i)) (.v (.int j)) M = some (.v (.bl (decide (j ≤ i))), M) := (rfl)
@[simp] theorem op2_is_non (d : D) : op2 .is (.v d) (.v .non) M = some (.v (.bl (decide (d = .non))), M) := by cases d <;> rfl
@[simp] theorem op2_isnot_non (d : D) : op2 .isnot (.v d) (.v .non) M = some (.v (.bl (!decide (d = .non))), M) := by cases d <;> rfl
@[simp] theorem op2_eq_int (i j : Int) : op2 .eq (.v (.int i)) (.v (.int j)) M = some (.v (.bl (decide (i = j))), M) := by
  have : eqA M (.v (.int i)) (.v (.int j)) = some (i == j) := by simp [eqA, pyOf, D.pure, D.py, SeqAt.shaped, PyData.canLay0, PyData.depth, PyData.eqv]
  unfold op2
  dsimp only
  rw [this]
  rfl
@[simp] theorem op2_ne_int (i j : Int) : op2 .ne (.v (.int i)) (.v (.int j)) M = some (.v (.bl (!decide (i = j))), M) := by
  have : eqA M (.v (.int i)) (.v (.int j)) = some (i == j) := by simp [eqA, pyOf, D.pure, D.py, SeqAt.shaped, PyData.canLay0, PyData.depth, PyData.eqv]
  unfold op2
  dsimp only
  rw [this]
  rfl
@[simp] theorem bi_len' (x : A) : biA .len [x] M = (lenOf M x).map fun (n : Nat) => (A.v (D.int (n : Int)), M) := (rfl)
@[simp] theorem lenOf_tup (ds : List D) : lenOf M (.v (.tup ds)) = some ds.length := (rfl)
@[simp] theorem lenOf_l (ds : List D) : lenOf M (.l ds) = some ds.length := (rfl)
@[simp] theorem lenOf_fz (ds : List D) : lenOf M (.v (.fz ds)) = some ds.length := (rfl)
theorem lenOf_ref {n : Nat} {ds : List D} (h : M[n]? = some (.lst ds)) : lenOf M (.v (.ref n)) = some ds.length := by unfold lenOf; simp only [h]
@[simp] theorem bi_tuple' (n : Nat) : biA .tuple [.v (.ref n)] M = (itemsOf M (.v (.ref n))).map fun ds => (.v (.tup ds), M) := (rfl)
@[simp] theorem bi_tuple_l (ds : List D) : biA .tuple [.l ds] M = some (.v (.tup ds), M) := (rfl)
@[simp] theorem bi_tuple_t (ds : List D) : biA .tuple [.v (.tup ds)] M = some (.v (.tup ds), M) := (rfl)
@[simp] theorem bi_tuple_f (ds : List D) : biA .tuple [.v (.fz ds)] M = some (.v (.tup ds), M) := (rfl)
@[simp] theorem bi_tuple_x (ds : List D) : biA .tuple [.v (.xt ds)] M = some (.v (.xt ds), M) := (rfl)
@[simp] theorem bi_xtup_l (ds : List D) : biA .xtup [.l ds] M = some (.v (.xt ds), M) := (rfl)
@[simp] theorem bi_xtup_r (n : Nat) : biA .xtup [.v (.ref n)] M = (itemsOf M (.v (.ref n))).map fun ds => (.v (.xt ds), M) := (rfl)
@[simp] theorem itemsOf_xt (ds : List D) : itemsOf M (.v (.xt ds)) = some ds := (rfl)
@[simp] theorem ixD_xt (ds : List D) (i : Int) : ixD M (.v (.xt ds)) (.int i) = L2.atI ds i := (rfl)
@[simp] theorem lenOf_xt (ds : List D) : lenOf M (.v (.xt ds)) = some ds.length := (rfl)
@[simp] theorem bi_list' (x : A) : biA .list [x] M = (itemsOf M x).map fun ds => (.l ds, M) := (rfl)
@[simp] theorem itemsOf_l (ds : List D) : itemsOf M (.l ds) = some ds := (rfl)
@[simp] theorem itemsOf_tup (ds : List D) : itemsOf M (.v (.tup ds)) = some ds := (rfl)
@[simp] theorem itemsOf_fz (ds : List D) : itemsOf M (.v (.fz ds)) = some ds := (rfl)
@[simp] theorem bi_abs' (i : Int) : biA .abs [.v (.int i)] M = some (.v (.int (if i < 0 then -i else i)), M) := (rfl)
@[simp] theorem bi_int' (i : Int) : biA .int [.v (.int i)] M = some (.v (.int i), M) := (rfl)
@[simp] theorem bi_max' (i j : Int) : biA .max [.v (.int i), .v (.int j)] M = some (.v (.int (if j > i then j else i)), M) := (rfl)
@[simp] theorem bi_min' (i j : Int) : biA .min [.v (.int i), .v (.int j)] M = some (.v (.int (if j < i then j else i)), M) := (rfl)
@[simp] theorem ixD_tup (ds : List D) (i : Int) : ixD M (.v (.tup ds)) (.int i) = L2.atI ds i := (rfl)
@[simp] theorem ixD_fz (ds : List D) (i : Int) : ixD M (.v (.fz ds)) (.int i) = L2.atI ds i := (rfl)
@[simp] theorem ixD_l (ds : List D) (i : Int) : ixD M (.l ds) (.int i) = L2.atI ds i := (rfl)
theorem ixD_lst {n : Nat} {ds : List D} (i : Int) (h : M[n]? = some (.lst ds)) : ixD M (.v (.ref n)) (.int i) = L2.atI ds i := by unfold ixD; simp only [h]
@[simp] theorem isTyA_tup (t : Ty) (ds : List D) : isTyA M t (.v (.tup ds)) = some (decide (t = .tuple)) := by cases t <;> rfl
theorem eqA_nil : eqA M (.l []) (.l []) = some true := by simp [eqA, pyOf, D.pures, D.pys, SeqAt.shaped, PyData.canLay0, PyData.canLayAll0, PyData.depth, PyData.depthAll, PyData.eqv, PyData.eqvAll]
theorem evIt_ex {cf : Cf} {e : E} {x : A} {ds : List D} {M1 : Mem} (h : ev cf e v M = some (x, M1)) (hx : itemsOf M1 x = some ds) : evIt cf (.ex e) v M = some ((ds, guardOf M1 x), M1) := by
  unfold evIt
  rw [h, bnd_some, hx]
  rfl
end
end Ev
namespace Ev
open PySem
section
variable [Tab] {P : List FD} {i k : Nat}
theorem lc_none {cf : Cf} {e c : E} {t : Tg} {own : List Nat} {v : Env} {M : Mem} {ds : List D} (h : ∀ d ∈ ds, lcBody cf e t c own v d M = some (none, M)) : lcLoop (lcBody cf e t c own v) none ds M = some ([], M) := by
  rw [lc_pure (fun _ => none) rfl h]
  simp
/-- a value is like itself -/
theorem alike_ok (h : P[i]? = some ⟨2, 3, bAlike i⟩) (n : Nat) : ∀ (d : D) (M : Mem), Fit n d → callAt P (k + n + 1) i [d, d] M = some (.bl true, M) := by
  induction n with
  | zero => intro d M hd; exact alike_flat h hd M
  | succ n ih =>
    intro d M hd
    rcases hd with hd | ⟨ds, rfl, hl, hs⟩
    · exact alike_flat h hd M
    · show callAt P (k + n + 1 + 1) i _ _ = _
      rw [call_eq h rfl]
      have hlc : lcLoop (lcBody (cfA P (k + n + 1)) (.var 2) (.nm 2) (.not (.call i (.cons (.ix (.var 0) (.var 2)) (.cons (.ix (.var 1) (.var 2)) .nil)))) [2] [some (D.tup ds), some (D.tup ds), none]) none (rangeD 0 ds.length) M = some ([], M) :=
        lc_none fun e he => by
          obtain ⟨z, rfl, h0, h1⟩ := rangeD_mem he
          have hz : z.toNat < ds.length := by omega
          have ih := ih ds[z.toNat] M (hs _ (List.getElem_mem hz))
          rw [lcBody_ap]
          simp [wipeE, atI_pos h0 hz, ih]
      have hrng : evIt (cfA P (k + n + 1)) (.rng (.cst (.int 0)) (.bi .len (.cons (.var 1) .nil))) [some (D.tup ds), some (D.tup ds), none] M = some ((rangeD 0 ds.length, none), M) := rng_ok (M1 := M) (by simp) (by simp) (by omega)
      have heq : op2 .eq (.l []) (.l []) M = some (.v (.bl true), M) := by
        unfold op2; dsimp only; rw [eqA_nil]; rfl
      have h0 : (0 : Nat) ≤ line := Nat.zero_le _
      simp [bAlike, hrng, hlc, heq, h0, fin_self]
end
end Ev
namespace Ev
open PySem
/-! ### _law_draws -/
def bD0 : Ss := (.cons (.ite (.op .gt (.var 6) (.cst (.int 0))) (.cons (.expr (.meth (.var 2) none (some .append) (.cons (.op .mod (.bi .int (.cons (.var 6) .nil)) (.cst (.int 997))) .nil))) (.cons (.asg (.tg (.nm 6)) (.op .fdiv (.var 6) (.cst (.int 997)))) .nil)) .nil) .nil)
def bD1 : Ss := (.cons (.asg (.tg (.nm 5)) (.bi .abs (.cons (.bi .int (.cons (.ix (.var 0) (.var 4)) .nil)) .nil))) (.cons (.asg (.tg (.nm 3)) (.op .mod (.bi .int (.cons (.op .add (.op .add (.op .mul (.var 3) (.cst (.int 48271))) (.op .mod (.var 5) (.cst (.int 1000003)))) (.var 4)) .nil)) (.cst (.int 65537)))) (.cons (.asg (.tg (.nm 6)) (.cst (.int 0))) (.cons (.ite (.op .ge (.var 5) (.op .pow (.cst (.int 10)) (.cst (.int 18)))) (.cons (.asg (.tg (.nm 6)) (.var 5)) .nil) (.cons (.expr (.meth (.var 2) none (some .append) (.cons (.op .mod (.bi .int (.cons (.var 5) .nil)) (.cst (.int 997))) .nil))) (.cons (.expr (.meth (.var 2) none (some .append) (.cons (.op .mod (.op .mod (.bi .int (.cons (.op .add (.op .mul (.var 3) (.cst (.int 69621))) (.cst (.int 5))) .nil)) (.cst (.int 65521))) (.cst (.int 997))) .nil))) .nil))) (.cons (.for (.nm 7) (.rng (.cst (.int 0)) (.cst (.int 60))) bD0) .nil)))))
def bD2 : Ss := (.cons (.asg (.tg (.nm 3)) (.op .mod (.bi .int (.cons (.op .add (.op .add (.op .mul (.var 3) (.cst (.int 16807))) (.var 4)) (.cst (.int 1))) .nil)) (.cst (.int 65537)))) (.cons (.expr (.meth (.var 2) none (some .append) (.cons (.op .mod (.bi .int (.cons (.var 3) .nil)) (.cst (.int 997))) .nil))) .nil))
def bDraws : Ss := (.cons (.asg (.tg (.nm 2)) (.lst .nil)) (.cons (.asg (.tg (.nm 3)) (.cst (.int 7))) (.cons (.for (.nm 4) (.rng (.cst (.int 0)) (.bi .len (.cons (.var 0) .nil))) bD1) (.cons (.for (.nm 4) (.rng (.cst (.int 0)) (.var 1)) bD2) (.cons (.ret (.sl (.var 2) (.cst .non) (.op .sub (.var 1) (.cst (.int 0))))) .nil)))))
section
variable [Tab] {P : List FD} {i k : Nat} {cf : Cf} {v : Env} {M : Mem}
theorem mul_ok {i j : Int} (h : -100000000000 ≤ i ∧ i ≤ 100000000000) : mulOk i j = true := by
  unfold mulOk
  rw [Bool.or_eq_true]
  refine .inl ?_
  rw [Bool.and_eq_true, decide_eq_true_eq, decide_eq_true_eq]
  omega
@[simp] theorem pow_18 : op2 .pow (.v (.int 10)) (.v (.int 18)) M = some (.v (.int (10 ^ 18)), M) := by
  unfold op2
  dsimp only
  rw [if_pos (by decide)]
  rfl
theorem app_ok {n : Nat} {ds ds2 : List D} {m : Option Nat} {e : E} {d : D} {M2 : Mem} (h : M[n]? = some (.lst ds)) (he : ev cf e v M = some (.v d, M2)) (h2 : M2[n]? = some (.lst ds2)) (hl : ds2.length < line) :
    kMth cf m (some .append) (.cons e .nil) v (.v (.ref n)) M = some (.v .non, M2.set n (.lst (ds2 ++ [d]))) := by
  have e1 : kMth cf m (some .append) (.cons e .nil) v (.v (.ref n)) M = bnd (evas cf (.cons e .nil) v M) (kMth2 M n .append) := by
    unfold kMth
    simp only [h]
  rw [e1]
  simp only [evas_cons, he, bnd_some, kACons_ap, evas_nil, kACons2_ap]
  unfold kMth2
  simp only [h2, h]
  simp [bmA, bmAppend, hl, kindM]
theorem in_turn {mixed rest many : Int} {o4 o5 o7 : Option D} {x : D} {acc : List Int} {d : D} (hr : 0 ≤ rest) (hl : acc.length < 10000000) :
    ∃ (acc2 : List Int) (rest2 : Int), forBody (cfA P k) (.nm 7) bD0 d [some x, some (.int many), some (.ref 0), some (.int mixed), o4, o5, some (.int rest), o7] [.lst (acc.map .int)] =
      some ((.nx, [some x, some (.int many), some (.ref 0), some (.int mixed), o4, o5, some (.int rest2), some d]), [.lst (acc2.map .int)]) ∧ 0 ≤ rest2 ∧ acc2.length ≤ acc.length + 1 := by
  rw [forBody_ap]
  by_cases h : 0 < rest
  · refine ⟨acc ++ [rest % 997], rest / 997, ?_, Int.ediv_nonneg hr (by decide), by simp⟩
    have hline : acc.length < line := by have : line = 16000000 := rfl; omega
    have ha := app_ok (cf := cfA P k) (v := [some x, some (.int many), some (.ref 0), some (.int mixed), o4, o5, some (.int rest), some d]) (M := [.lst (acc.map .int)]) (n := 0) (m := none) (e := .op .mod (.bi .int (.cons (.var 6) .nil)) (.cst (.int 997))) (d := .int (rest % 997)) (M2 := [.lst (acc.map .int)]) rfl (by simp) rfl (by simpa using hline)
    simp [bD0, h, ha]
  · refine ⟨acc, rest, ?_, hr, by omega⟩
    simp [bD0, h]
theorem in_all {mixed rest many : Int} {o4 o5 o7 : Option D} {x : D} {acc : List Int} (hr : 0 ≤ rest) (hl : acc.length < 1000000) :
    ∃ (acc2 : List Int) (rest2 : Int) (o : Option D), forL (forBody (cfA P k) (.nm 7) bD0) none (rangeD 0 60) [some x, some (.int many), some (.ref 0), some (.int mixed), o4, o5, some (.int rest), o7] [.lst (acc.map .int)] =
      some ((.nx, [some x, some (.int many), some (.ref 0), some (.int mixed), o4, o5, some (.int rest2), o]), [.lst (acc2.map .int)]) ∧ acc2.length ≤ acc.length + 60 := by
  obtain ⟨v', M', h1, acc2, rest2, o, rfl, rfl, _, h2⟩ := for_ok (b := forBody (cfA P k) (.nm 7) bD0) (g := none)
    (fun j v M => ∃ (acc2 : List Int) (rest2 : Int) (o : Option D), v = [some x, some (.int many), some (.ref 0), some (.int mixed), o4, o5, some (.int rest2), o] ∧ M = [.lst (acc2.map .int)] ∧ 0 ≤ rest2 ∧ acc2.length ≤ acc.length + j) (fun _ _ _ _ => rfl)
    (ds := rangeD 0 60) (j := 0) (v := [some x, some (.int many), some (.ref 0), some (.int mixed), o4, o5, some (.int rest), o7]) (M := [.lst (acc.map .int)]) (fun i d v M hd ⟨acc2, rest2, o, e1, e2, e3, e4⟩ => by
      subst e1 e2
      have hi : i < 60 := by
        have := (List.getElem?_eq_some_iff.mp hd).1
        rw [rangeD_len] at this
        omega
      obtain ⟨acc3, rest3, q1, q2, q3⟩ := in_turn (P := P) (k := k) (mixed := mixed) (many := many) (o4 := o4) (o5 := o5) (o7 := o) (x := x) (d := d) e3 (show acc2.length < 10000000 by omega)
      exact ⟨_, _, .inl q1, acc3, rest3, some d, rfl, rfl, q2, by omega⟩) ⟨acc, rest, o7, rfl, rfl, hr, by omega⟩
  rw [rangeD_len] at h2
  exact ⟨acc2, rest2, o, h1, by omega⟩
theorem out_turn {mixed many z : Int} {o4 o5 o6 o7 : Option D} {ns acc : List Int} (hm : 0 ≤ mixed ∧ mixed < 65537) (hz : 0 ≤ z ∧ z.toNat < ns.length) (hl : acc.length < 100000) :
    ∃ (acc2 : List Int) (mixed2 : Int) (p4 p5 p6 p7 : Option D), forBody (cfA P k) (.nm 4) bD1 (.int z) [some (.fz (ns.map .int)), some (.int many), some (.ref 0), some (.int mixed), o4, o5, o6, o7] [.lst (acc.map .int)] =
      some ((.nx, [some (.fz (ns.map .int)), some (.int many), some (.ref 0), some (.int mixed2), p4, p5, p6, p7]), [.lst (acc2.map .int)]) ∧ 0 ≤ mixed2 ∧ mixed2 < 65537 ∧ acc2.length ≤ acc.length + 62 := by
  rw [forBody_ap]
  have hat : L2.atI (ns.map D.int) z = some (.int ns[z.toNat]) := by rw [atI_pos hz.1 (by simpa using hz.2)]; simp
  generalize ns[z.toNat] = c at hat
  generalize hcell : (if c < 0 then -c else c) = cell
  have hc0 : 0 ≤ cell := by subst hcell; split <;> omega
  generalize hmx : (mixed * 48271 + cell % 1000003 + z) % 65537 = mx
  have hmx0 : 0 ≤ mx ∧ mx < 65537 := by
    subst hmx
    exact ⟨Int.emod_nonneg _ (by decide), Int.emod_lt_of_pos _ (by decide)⟩
  have mo1 : mulOk mixed 48271 = true := mul_ok (by omega)
  have mo2 : mulOk mx 69621 = true := mul_ok (by omega)
  by_cases hbig : (1000000000000000000 : Int) ≤ cell
  · obtain ⟨acc2, rest2, o, q1, q2⟩ := in_all (P := P) (k := k) (mixed := mx) (many := many) (o4 := some (.int z)) (o5 := some (.int cell)) (o7 := o7) (x := .fz (ns.map .int)) (acc := acc) hc0 (by omega)
    have hr : evIt (cfA P k) (.rng (.cst (.int 0)) (.cst (.int 60))) [some (.fz (ns.map .int)), some (.int many), some (.ref 0), some (.int mx), some (.int z), some (.int cell), some (.int cell), o7] [.lst (acc.map .int)] = some ((rangeD 0 60, none), [.lst (acc.map .int)]) := rng_ok (M1 := [.lst (acc.map .int)]) (by simp) (by simp) (by omega)
    refine ⟨acc2, mx, some (.int z), some (.int cell), some (.int rest2), o, ?_, hmx0.1, hmx0.2, by omega⟩
    simp [bD1, hat, hcell, hmx, mo1, hbig, hr, q1]
  · obtain ⟨acc2, rest2, o, q1, q2⟩ := in_all (P := P) (k := k) (mixed := mx) (rest := 0) (many := many) (o4 := some (.int z)) (o5 := some (.int cell)) (o7 := o7) (x := .fz (ns.map .int)) (acc := acc ++ [cell % 997] ++ [(mx * 69621 + 5) % 65521 % 997]) (by omega) (by simp; omega)
    have hr : evIt (cfA P k) (.rng (.cst (.int 0)) (.cst (.int 60))) [some (.fz (ns.map .int)), some (.int many), some (.ref 0), some (.int mx), some (.int z), some (.int cell), some (.int 0), o7] [.lst ((acc ++ [cell % 997] ++ [(mx * 69621 + 5) % 65521 % 997]).map .int)] = some ((rangeD 0 60, none), [.lst ((acc ++ [cell % 997] ++ [(mx * 69621 + 5) % 65521 % 997]).map .int)]) := rng_ok (M1 := [.lst ((acc ++ [cell % 997] ++ [(mx * 69621 + 5) % 65521 % 997]).map .int)]) (by simp) (by simp) (by omega)
    have hline : acc.length + 1 < line := by have : line = 16000000 := rfl; omega
    have ha1 := app_ok (cf := cfA P k) (v := [some (.fz (ns.map .int)), some (.int many), some (.ref 0), some (.int mx), some (.int z), some (.int cell), some (.int 0), o7]) (M := [.lst (acc.map .int)]) (n := 0) (m := none) (e := .op .mod (.bi .int (.cons (.var 5) .nil)) (.cst (.int 997))) (d := .int (cell % 997)) (M2 := [.lst (acc.map .int)]) rfl (by simp) rfl (by simp; omega)
    have ha2 := app_ok (cf := cfA P k) (v := [some (.fz (ns.map .int)), some (.int many), some (.ref 0), some (.int mx), some (.int z), some (.int cell), some (.int 0), o7]) (M := [.lst (acc.map .int ++ [.int (cell % 997)])]) (n := 0) (m := none) (e := .op .mod (.op .mod (.bi .int (.cons (.op .add (.op .mul (.var 3) (.cst (.int 69621))) (.cst (.int 5))) .nil)) (.cst (.int 65521))) (.cst (.int 997))) (d := .int ((mx * 69621 + 5) % 65521 % 997)) (M2 := [.lst (acc.map .int ++ [.int (cell % 997)])]) rfl (by simp [mo2]) rfl (by simp; omega)
    refine ⟨acc2, mx, some (.int z), some (.int cell), some (.int rest2), o, ?_, hmx0.1, hmx0.2, by simp at q2; omega⟩
    simp at hr q1
    simp [bD1, hat, hcell, hmx, mo1, hbig, ha1, ha2, hr, q1]
theorem end_turn {mixed many z : Int} {o4 o5 o6 o7 : Option D} {x : D} {acc : List Int} (hm : 0 ≤ mixed ∧ mixed < 65537) (hl : acc.length < 1000000) :
    ∃ (acc2 : List Int) (mixed2 : Int), forBody (cfA P k) (.nm 4) bD2 (.int z) [some x, some (.int many), some (.ref 0), some (.int mixed), o4, o5, o6, o7] [.lst (acc.map .int)] =
      some ((.nx, [some x, some (.int many), some (.ref 0), some (.int mixed2), some (.int z), o5, o6, o7]), [.lst (acc2.map .int)]) ∧ 0 ≤ mixed2 ∧ mixed2 < 65537 ∧ acc2.length = acc.length + 1 := by
  rw [forBody_ap]
  generalize hmx : (mixed * 16807 + z + 1) % 65537 = mx
  have hmx0 : 0 ≤ mx ∧ mx < 65537 := by
    subst hmx
    exact ⟨Int.emod_nonneg _ (by decide), Int.emod_lt_of_pos _ (by decide)⟩
  have mo1 : mulOk mixed 16807 = true := mul_ok (by omega)
  have hline : acc.length < line := by have : line = 16000000 := rfl; omega
  have ha1 := app_ok (cf := cfA P k) (v := [some x, some (.int many), some (.ref 0), some (.int mx), some (.int z), o5, o6, o7]) (M := [.lst (acc.map .int)]) (n := 0) (m := none) (e := .op .mod (.bi .int (.cons (.var 3) .nil)) (.cst (.int 997))) (d := .int (mx % 997)) (M2 := [.lst (acc.map .int)]) rfl (by simp) rfl (by simpa using hline)
  refine ⟨acc ++ [mx % 997], mx, ?_, hmx0.1, hmx0.2, by simp⟩
  simp [bD2, hmx, mo1, ha1]
theorem out_all {many : Int} {ns : List Int} (hn : ns.length ≤ 1000) :
    ∃ (acc2 : List Int) (mixed2 : Int) (p4 p5 p6 p7 : Option D), forL (forBody (cfA P k) (.nm 4) bD1) none (rangeD 0 ns.length) [some (.fz (ns.map .int)), some (.int many), some (.ref 0), some (.int 7), none, none, none, none] [.lst []] =
      some ((.nx, [some (.fz (ns.map .int)), some (.int many), some (.ref 0), some (.int mixed2), p4, p5, p6, p7]), [.lst (acc2.map .int)]) ∧ 0 ≤ mixed2 ∧ mixed2 < 65537 ∧ acc2.length ≤ 62 * ns.length := by
  obtain ⟨v', M', h1, acc2, mixed2, p4, p5, p6, p7, rfl, rfl, b1, b2, b3⟩ := for_ok (b := forBody (cfA P k) (.nm 4) bD1) (g := none)
    (fun j v M => ∃ (acc2 : List Int) (mixed2 : Int) (p4 p5 p6 p7 : Option D), v = [some (.fz (ns.map .int)), some (.int many), some (.ref 0), some (.int mixed2), p4, p5, p6, p7] ∧ M = [.lst (acc2.map .int)] ∧ 0 ≤ mixed2 ∧ mixed2 < 65537 ∧ acc2.length ≤ 62 * j) (fun _ _ _ _ => rfl)
    (ds := rangeD 0 ns.length) (j := 0) (v := [some (.fz (ns.map .int)), some (.int many), some (.ref 0), some (.int 7), none, none, none, none]) (M := [.lst []]) (fun i d v M hd ⟨acc2, mixed2, p4, p5, p6, p7, e1, e2, e3, e4, e5⟩ => by
      subst e1 e2
      obtain ⟨rfl, hi⟩ := rangeD_at hd
      obtain ⟨acc3, m3, q4, q5, q6, q7, q1, q2, q3, q8⟩ := out_turn (P := P) (k := k) (many := many) (z := 0 + (i : Int)) (o4 := p4) (o5 := p5) (o6 := p6) (o7 := p7) (ns := ns) ⟨e3, e4⟩ (by omega) (show acc2.length < 100000 by omega)
      exact ⟨_, _, .inl q1, acc3, m3, q4, q5, q6, q7, rfl, rfl, q2, q3, by omega⟩) ⟨[], 7, none, none, none, none, rfl, rfl, by decide, by decide, by simp⟩
  rw [rangeD_len] at b3
  exact ⟨acc2, mixed2, p4, p5, p6, p7, h1, b1, b2, by omega⟩
theorem end_all {mixed : Int} {many : Nat} {x : D} {o4 o5 o6 o7 : Option D} {acc : List Int} (hm : 0 ≤ mixed ∧ mixed < 65537) (hl : acc.length < 100000) (hmany : many ≤ 100000) :
    ∃ (acc2 : List Int) (mixed2 : Int) (p4 : Option D), forL (forBody (cfA P k) (.nm 4) bD2) none (rangeD 0 many) [some x, some (.int many), some (.ref 0), some (.int mixed), o4, o5, o6, o7] [.lst (acc.map .int)] =
      some ((.nx, [some x, some (.int many), some (.ref 0), some (.int mixed2), p4, o5, o6, o7]), [.lst (acc2.map .int)]) ∧ acc2.length = acc.length + many := by
  obtain ⟨v', M', h1, acc2, mixed2, p4, rfl, rfl, b1, b2, b3⟩ := for_ok (b := forBody (cfA P k) (.nm 4) bD2) (g := none)
    (fun j v M => ∃ (acc2 : List Int) (mixed2 : Int) (p4 : Option D), v = [some x, some (.int many), some (.ref 0), some (.int mixed2), p4, o5, o6, o7] ∧ M = [.lst (acc2.map .int)] ∧ 0 ≤ mixed2 ∧ mixed2 < 65537 ∧ acc2.length = acc.length + j) (fun _ _ _ _ => rfl)
    (ds := rangeD 0 many) (j := 0) (v := [some x, some (.int many), some (.ref 0), some (.int mixed), o4, o5, o6, o7]) (M := [.lst (acc.map .int)]) (fun i d v M hd ⟨acc2, mixed2, p4, e1, e2, e3, e4, e5⟩ => by
      subst e1 e2
      obtain ⟨rfl, hi⟩ := rangeD_at hd
      obtain ⟨acc3, m3, q1, q2, q3, q8⟩ := end_turn (P := P) (k := k) (many := many) (z := 0 + (i : Int)) (o4 := p4) (o5 := o5) (o6 := o6) (o7 := o7) (x := x) ⟨e3, e4⟩ (show acc2.length < 1000000 by omega)
      exact ⟨_, _, .inl q1, acc3, m3, _, rfl, rfl, q2, q3, by omega⟩) ⟨acc, mixed, o4, rfl, rfl, hm.1, hm.2, by omega⟩
  rw [rangeD_len] at b3
  exact ⟨acc2, mixed2, p4, h1, by omega⟩
theorem cut_hi {ds : List D} {n : Nat} (h : n ≤ ds.length) : cutD ds none (some (n : Int)) = ds.take n := by
  unfold cutD
  have e1 : HT.sIx ds.length 0 none = 0 := rfl
  have e2 : HT.sIx ds.length ds.length (some (n : Int)) = n := by
    rw [HT.sIx_nat]
    omega
  rw [e1, e2]
  rfl
/-- so many draws -/
theorem draws_ok (h : P[i]? = some ⟨2, 8, bDraws⟩) {ns : List Int} (hn : ns.length ≤ 1000) {many : Nat} (hmany : many ≤ 100000) : ∃ (acc ds : List Int), callAt P (k + 1) i [.fz (ns.map .int), .int many] [] = some (.ref 1, [.lst (acc.map .int), .lst (ds.map .int)]) ∧ ds.length = many := by
  obtain ⟨acc, m1, p4, p5, p6, p7, h1, b1, b2, b3⟩ := out_all (P := P) (k := k) (many := many) hn
  obtain ⟨acc2, m2, q4, h2, b4⟩ := end_all (P := P) (k := k) (many := many) (x := .fz (ns.map .int)) (o4 := p4) (o5 := p5) (o6 := p6) (o7 := p7) (acc := acc) ⟨b1, b2⟩ (by omega) hmany
  refine ⟨acc2, acc2.take many, ?_, by rw [List.length_take]; omega⟩
  rw [call_eq h rfl]
  have r1 : evIt (cfA P k) (.rng (.cst (.int 0)) (.bi .len (.cons (.var 0) .nil))) [some (.fz (ns.map .int)), some (.int many), some (.ref 0), some (.int 7), none, none, none, none] [.lst []] = some ((rangeD 0 ns.length, none), [.lst []]) := rng_ok (M1 := [.lst []]) (by simp) (by simp) (by omega)
  have r2 : evIt (cfA P k) (.rng (.cst (.int 0)) (.var 1)) [some (.fz (ns.map .int)), some (.int many), some (.ref 0), some (.int m1), p4, p5, p6, p7] [.lst (acc.map .int)] = some ((rangeD 0 many, none), [.lst (acc.map .int)]) := rng_ok (M1 := [.lst (acc.map .int)]) (by simp) (by simp) (by omega)
  have e3 : slA [.lst (acc2.map .int)] (.v (.ref 0)) none (some (many : Int)) = some (.l ((acc2.take many).map .int)) := by
    unfold slA
    simp only [itemsOf, List.getElem?_cons_zero, Option.map_some]
    rw [cut_hi (by simp; omega), List.map_take]
  have e4 : fin [] (.ref 1) [.lst (acc2.map .int), .lst ((acc2.take many).map .int)] = (.ref 1, [.lst (acc2.map .int), .lst ((acc2.take many).map .int)]) := by
    unfold fin
    rw [if_neg (by simp [D.lo])]
  simp [bDraws, r1, h1, r2, h2, e3]
  simpa using e4
end
end Ev
namespace Ev
open PySem
/-! ### dicts of whole numbers -/
abbrev KV := List (Int × D)
def emb (p : Int × D) : D × D := (.int p.1, p.2)
def put (kvs : KV) (k : Int) (v : D) : KV := if (kvs.any fun kv => decide (kv.1 = k)) = true then kvs.map (fun kv => if kv.1 = k then (kv.1, v) else kv) else kvs ++ [(k, v)]
def get (kvs : KV) (k : Int) : Option D := (kvs.find? fun kv => decide (kv.1 = k)).map (·.2)
/-- what is put one behind another -/
def dic (xs : KV) : KV := xs.foldl (fun acc p => put acc p.1 p.2) []
/-- the last one under k -/
def lastv : KV → Int → Option D
  | [], _ => none
  | p :: xs, k => (lastv xs k).or (if p.1 = k then some p.2 else none)
theorem lastv_cons (p : Int × D) (xs : KV) (k : Int) : lastv (p :: xs) k = (lastv xs k).or (if p.1 = k then some p.2 else none) := rfl
def keys (kvs : KV) : List Int := kvs.map (·.1)
theorem dput_emb (kvs : KV) (k : Int) (v : D) : dput (kvs.map emb) (.int k) v = (put kvs k v).map emb := by
  unfold dput put
  have e : ((kvs.map emb).any fun kv => decide (kv.1 = D.int k)) = kvs.any fun kv => decide (kv.1 = k) := by
    rw [List.any_map]
    congr 1
    funext kv
    simp [emb]
  rw [e]
  split
  · rw [List.map_map, List.map_map]
    apply List.map_congr_left
    intro kv _
    simp only [Function.comp, emb]
    by_cases h : kv.1 = k
    · simp [h]
    · simp [h]
  · simp [emb]
theorem dget_emb (kvs : KV) (k : Int) : dget (kvs.map emb) (.int k) = get kvs k := by
  unfold dget get
  rw [List.find?_map]
  have e : ((fun kv : D × D => decide (kv.1 = D.int k)) ∘ emb) = fun kv : Int × D => decide (kv.1 = k) := by
    funext kv
    simp [emb]
  rw [e, Option.map_map]
  rfl
theorem get_put (kvs : KV) (k : Int) (v : D) (j : Int) : get (put kvs k v) j = if k = j then some v else get kvs j := by
  unfold put
  split
  · rename_i h
    induction kvs with
    | nil => cases h
    | cons p kvs ih =>
      unfold get at ih ⊢
      rw [List.map_cons, List.find?_cons, List.find?_cons]
      by_cases hp : p.1 = k
      · rw [if_pos hp]
        by_cases hj : k = j
        · simp [hp, hj]
        · have : ¬ p.1 = j := by rw [hp]; exact hj
          simp only [this, decide_false, hj, if_false]
          by_cases hr : (kvs.any fun kv => decide (kv.1 = k)) = true
          · have := ih hr
            rw [if_neg hj] at this
            exact this
          · have : kvs.map (fun kv => if kv.1 = k then (kv.1, v) else kv) = kvs := by
              have : ∀ kv ∈ kvs, (if kv.1 = k then (kv.1, v) else kv) = kv := fun kv hkv => by
                rw [if_neg]
                intro e
                exact hr (List.any_eq_true.mpr ⟨kv, hkv, by simpa using e⟩)
              conv => rhs; rw [← List.map_id kvs]
              exact List.map_congr_left this
            rw [this]
      · rw [if_neg hp]
        have hr : (kvs.any fun kv => decide (kv.1 = k)) = true := by
          rw [List.any_cons, Bool.or_eq_true] at h
          rcases h with h | h
          · exact absurd (of_decide_eq_true h) hp
          · exact h
        have := ih hr
        by_cases hj : p.1 = j
        · simp only [hj, decide_true]
          rw [if_neg (show ¬ k = j from fun e => hp (hj.trans e.symm))]
        · simp only [hj, decide_false]
          exact this
  · rename_i h
    unfold get
    rw [List.find?_append]
    by_cases hj : k = j
    · subst hj
      have : kvs.find? (fun kv => decide (kv.1 = k)) = none := by
        rw [List.find?_eq_none]
        intro kv hkv e
        exact h (List.any_eq_true.mpr ⟨kv, hkv, e⟩)
      rw [this]
      simp
    · rw [if_neg hj]
      simp [hj]
theorem get_foldl (j : Int) : ∀ (xs acc : KV), get (xs.foldl (fun acc p => put acc p.1 p.2) acc) j = (lastv xs j).or (get acc j)
  | [], acc => by simp [lastv]
  | p :: xs, acc => by
    rw [List.foldl_cons, get_foldl j xs, get_put]
    rw [lastv_cons]
    by_cases h : p.1 = j
    · simp [h]
    · simp [h]
theorem get_dic (xs : KV) (j : Int) : get (dic xs) j = lastv xs j := by
  unfold dic
  rw [get_foldl]
  have : get [] j = none := rfl
  rw [this, Option.or_none]
theorem mem_put (kvs : KV) (k : Int) (v : D) (j : Int) : j ∈ keys (put kvs k v) ↔ j = k ∨ j ∈ keys kvs := by
  unfold put keys
  split
  · rename_i h
    have e : (kvs.map fun kv => if kv.1 = k then (kv.1, v) else kv).map (·.1) = kvs.map (·.1) := by
      rw [List.map_map]
      apply List.map_congr_left
      intro kv _
      simp only [Function.comp]
      split <;> rfl
    rw [e]
    obtain ⟨kv, h1, h2⟩ := List.any_eq_true.mp h
    have h2 := of_decide_eq_true h2
    constructor
    · exact .inr
    · rintro (rfl | h)
      · exact List.mem_map.mpr ⟨kv, h1, h2⟩
      · exact h
  · simp only [List.map_append, List.mem_append, List.map_cons, List.map_nil, List.mem_singleton]
    exact or_comm
theorem nodup_put (kvs : KV) (k : Int) (v : D) (h : (keys kvs).Nodup) : (keys (put kvs k v)).Nodup := by
  unfold put
  split
  · have e : (kvs.map fun kv => if kv.1 = k then (kv.1, v) else kv).map (·.1) = kvs.map (·.1) := by
      rw [List.map_map]
      apply List.map_congr_left
      intro kv _
      simp only [Function.comp]
      split <;> rfl
    unfold keys
    rw [e]
    exact h
  · rename_i hn
    unfold keys
    rw [List.map_append, List.nodup_append]
    refine ⟨h, by simp, ?_⟩
    intro a ha b hb e
    simp at hb
    subst hb e
    obtain ⟨kv, h1, h2⟩ := List.mem_map.mp ha
    exact hn (List.any_eq_true.mpr ⟨kv, h1, by simpa using h2⟩)
theorem mem_foldl (j : Int) : ∀ (xs acc : KV), j ∈ keys (xs.foldl (fun acc p => put acc p.1 p.2) acc) ↔ (lastv xs j).isSome = true ∨ j ∈ keys acc
  | [], acc => by simp [lastv]
  | p :: xs, acc => by
    rw [List.foldl_cons, mem_foldl j xs, mem_put]
    rw [lastv_cons]
    by_cases h : p.1 = j
    · subst h
      cases lastv xs p.1 <;> simp
    · have h' : ¬ j = p.1 := fun e => h e.symm
      simp [h, h']
theorem nodup_foldl : ∀ (xs acc : KV), (keys acc).Nodup → (keys (xs.foldl (fun acc p => put acc p.1 p.2) acc)).Nodup
  | [], acc, h => h
  | p :: xs, acc, h => by
    rw [List.foldl_cons]
    exact nodup_foldl xs _ (nodup_put _ _ _ h)
theorem len_put (kvs : KV) (k : Int) (v : D) : (put kvs k v).length ≤ kvs.length + 1 := by
  unfold put
  split <;> simp
theorem len_foldl : ∀ (xs acc : KV), (xs.foldl (fun acc p => put acc p.1 p.2) acc).length ≤ acc.length + xs.length
  | [], acc => by simp
  | p :: xs, acc => by
    rw [List.foldl_cons]
    have := len_foldl xs (put acc p.1 p.2)
    have h2 := len_put acc p.1 p.2
    simp only [List.length_cons]
    omega
/-! ### sorted -/
def sortI (ks : List Int) : List Int := ks.mergeSort fun a b => decide (a ≤ b)
theorem sortD_int (ks : List Int) : sortD (ks.map D.int) = (sortI ks).map D.int := by
  unfold sortD sortI
  rw [List.map_mergeSort]
  intro a _ b _
  have := congrFun (congrFun (PySem.W.dataLe_int (β := Int) id) a) b
  exact this.symm
theorem sortI_eq {ks ls : List Int} (hk : ks.Nodup) (hl : ls.Nodup) (h : ∀ k, k ∈ ks ↔ k ∈ ls) : sortI ks = sortI ls := by
  have p : ks.Perm ls := (List.perm_ext_iff_of_nodup hk hl).mpr h
  have s : ∀ ms : List Int, (sortI ms).Pairwise fun a b => a ≤ b := fun ms => by
    have := List.pairwise_mergeSort (le := fun a b : Int => decide (a ≤ b)) (fun a b c h1 h2 => by simp at h1 h2 ⊢; omega) (fun a b => by simp; omega) ms
    exact this.imp fun h => by simpa using h
  refine List.Perm.eq_of_pairwise (le := fun a b : Int => a ≤ b) (fun a b _ _ h1 h2 => Int.le_antisymm h1 h2) (s ks) (s ls) ?_
  exact (List.mergeSort_perm ks _).trans (p.trans (List.mergeSort_perm ls _).symm)
theorem sortOk_int (ks : List Int) : sortOk (ks.map D.int) = true := by
  have hp : ∀ ks : List Int, D.pures (ks.map D.int) = true := fun ks => by
    induction ks with
    | nil => rfl
    | cons a ks ih => rw [List.map_cons, D.pures, ih]; rfl
  have hy : ∀ ks : List Int, D.pys (ks.map D.int) = ks.map PyData.int := fun ks => by
    induction ks with
    | nil => rfl
    | cons a ks ih => rw [List.map_cons, D.pys, ih]; rfl
  have ha : ∀ ks : List Int, alikes (ks.map PyData.int) = true := fun ks => by
    induction ks with
    | nil => rfl
    | cons a ks ih =>
      rw [List.map_cons, alikes, ih, Bool.and_true, Bool.and_eq_true, List.all_eq_true]
      refine ⟨fun x hx => ?_, rfl⟩
      obtain ⟨b, _, rfl⟩ := List.mem_map.mp hx
      rfl
  unfold sortOk
  rw [hp, hy, ha, Bool.true_and, Bool.true_and, Bool.and_eq_true]
  refine ⟨?_, ?_⟩
  · rw [Bool.or_eq_true]
    refine .inr (List.all_eq_true.mpr fun x hx => ?_)
    obtain ⟨b, _, rfl⟩ := List.mem_map.mp hx
    rfl
  · rw [List.all_eq_true]
    intro x hx
    obtain ⟨b, _, rfl⟩ := List.mem_map.mp hx
    exact decide_eq_true (by simp [PyData.depth])
end Ev
namespace Ev
open PySem
mutual
theorem pure_lo (n : Nat) : ∀ d : D, d.pure = true → d.lo n = true
  | .non, _ => rfl
  | .bl _, _ => rfl
  | .int _, _ => rfl
  | .str _, _ => rfl
  | .tup ds, h => by rw [D.pure] at h; rw [D.lo]; exact pures_los n ds h
  | .fz ds, h => by rw [D.pure] at h; rw [D.lo]; exact pures_los n ds h
  | .xt ds, h => by rw [D.pure] at h; rw [D.lo]; exact pures_los n ds h
  | .ref _, h => by cases h
theorem pures_los (n : Nat) : ∀ ds : List D, D.pures ds = true → D.los n ds = true
  | [], _ => rfl
  | d :: ds, h => by
    rw [D.pures, Bool.and_eq_true] at h
    rw [D.los, pure_lo n d h.1, pures_los n ds h.2]
    rfl
end
theorem pures_iff : ∀ {ds : List D}, D.pures ds = true ↔ ∀ d ∈ ds, d.pure = true
  | [] => by simp [D.pures]
  | d :: ds => by rw [D.pures, Bool.and_eq_true, pures_iff]; simp
section
variable [Tab] {P : List FD} {i k : Nat} {cf : Cf} {v : Env} {M : Mem}
theorem at_last (x : MO) : (M ++ [x])[M.length]? = some x := by simp
theorem set_last (x y : MO) : (M ++ [x]).set M.length y = M ++ [y] := by simp
theorem asgT_tp2 (a b : Nat) (x y : D) : asgT (.tp [.nm a, .nm b]) (.tup [x, y]) v = if a < v.length ∧ b < v.length then some ((v.set a (some x)).set b (some y)) else none := by
  rw [asgT, asgTs, asgT_nm]
  by_cases h : a < v.length
  · rw [if_pos h]
    dsimp only
    rw [asgTs, asgT_nm, List.length_set]
    by_cases h2 : b < v.length
    · rw [if_pos h2, if_pos ⟨h, h2⟩]
      dsimp only
      rw [asgTs]
    · rw [if_neg h2, if_neg (fun w => h2 w.2)]
  · rw [if_neg h, if_neg (fun w => h w.1)]
theorem setI_dic {n : Nat} {kvs : KV} {j : Int} {d : D} (h : M[n]? = some (.dic false (kvs.map emb))) (hl : kvs.length < line) : setI M (.ref n) (.int j) d = some (M.set n (.dic false ((put kvs j d).map emb))) := by
  unfold setI
  simp only [h]
  rw [dput_emb, if_pos]
  exact ⟨rfl, by simpa using hl⟩
theorem ixD_dic {n : Nat} {kvs : KV} {j : Int} (h : M[n]? = some (.dic false (kvs.map emb))) : ixD M (.v (.ref n)) (.int j) = get kvs j := by
  unfold ixD
  simp only [h]
  rw [dget_emb, if_pos]
  rfl
theorem sorted_dic {n : Nat} {kvs : KV} (h : M[n]? = some (.dic false (kvs.map emb))) : biA .sorted [.v (.ref n)] M = some (.l ((sortI (keys kvs)).map .int), M) := by
  show biSorted (.v (.ref n)) M = _
  unfold biSorted drawsOf
  simp only [h]
  have e : (kvs.map emb).map (·.1) = (keys kvs).map D.int := by
    unfold keys
    rw [List.map_map, List.map_map]
    rfl
  rw [e]
  rw [if_pos (sortOk_int _), sortD_int]
/-! ### the table of a log -/
def logD (xs : KV) : D := .tup (xs.map fun p => .tup [.int p.1, p.2])
def rowOf (kvs : KV) (j : Int) : Option D := match get kvs j with
  | some d => if d = .non then none else some (.tup [.int j, d])
  | none => none
def T (xs : KV) : D := .tup ((sortI (keys (dic xs))).filterMap (rowOf (dic xs)))
theorem T_eq {xs ys : KV} (h : ∀ j, lastv xs j = lastv ys j) : T xs = T ys := by
  unfold T
  have e1 : sortI (keys (dic xs)) = sortI (keys (dic ys)) := by
    refine sortI_eq (nodup_foldl _ _ List.nodup_nil) (nodup_foldl _ _ List.nodup_nil) fun j => ?_
    unfold dic
    rw [mem_foldl, mem_foldl, h j]
  have e2 : rowOf (dic xs) = rowOf (dic ys) := by
    funext j
    unfold rowOf
    rw [get_dic, get_dic, h j]
  rw [e1, e2]
def bTable : Ss := (.cons (.asg (.tg (.nm 1)) (.dic false .nil)) (.cons (.for (.tp [(.nm 2), (.nm 3)]) (.ex (.var 0)) (.cons (.asg (.sub (.var 1) (.var 2)) (.var 3)) .nil)) (.cons (.ret (.bi .tuple (.cons (.lc (.tup (.cons (.var 2) (.cons (.ix (.var 1) (.var 2)) .nil))) (.nm 2) (.ex (.bi .sorted (.cons (.var 1) .nil))) (.op .isnot (.ix (.var 1) (.var 2)) (.cst .non)) [2]) .nil))) .nil)))
theorem lastv_mem : ∀ {xs : KV} {j : Int} {d : D}, lastv xs j = some d → (j, d) ∈ xs
  | [], _, _, h => by cases h
  | p :: xs, j, d, h => by
    rw [lastv_cons] at h
    cases e : lastv xs j with
    | some d' =>
      rw [e] at h
      cases h
      exact List.mem_cons_of_mem _ (lastv_mem e)
    | none =>
      rw [e] at h
      by_cases hp : p.1 = j
      · simp [hp] at h
        subst h hp
        exact List.mem_cons_self
      · simp [hp] at h
theorem T_pure {xs : KV} (hp : ∀ p ∈ xs, p.2.pure = true) : (T xs).pure = true := by
  unfold T
  rw [D.pure, pures_iff]
  intro d hd
  obtain ⟨j, hj, e⟩ := List.mem_filterMap.mp hd
  unfold rowOf at e
  split at e
  · rename_i d' hd'
    split at e
    · cases e
    · cases e
      rw [get_dic] at hd'
      have := hp _ (lastv_mem hd')
      simp [D.pure, D.pures, this]
  · cases e
theorem table_ok (h : P[i]? = some ⟨1, 4, bTable⟩) {xs : KV} (hp : ∀ p ∈ xs, p.2.pure = true) (hl : xs.length ≤ 100000) : callAt P (k + 1) i [logD xs] M = some (T xs, M) := by
  rw [call_eq h rfl]
  have hline : line = 16000000 := rfl
  -- the log is walked
  obtain ⟨v', M', h1, o2, o3, rfl, rfl⟩ := for_ok (b := forBody (cfA P k) (.tp [.nm 2, .nm 3]) (.cons (.asg (.sub (.var 1) (.var 2)) (.var 3)) .nil)) (g := none)
    (fun j v M' => ∃ o2 o3, v = [some (logD xs), some (.ref M.length), o2, o3] ∧ M' = M ++ [.dic false (((xs.take j).foldl (fun acc p => put acc p.1 p.2) []).map emb)]) (fun _ _ _ _ => rfl)
    (ds := xs.map fun p => .tup [.int p.1, p.2]) (j := 0) (v := [some (logD xs), some (.ref M.length), none, none]) (M := M ++ [.dic false []]) (fun j d v M' hd ⟨o2, o3, e1, e2⟩ => by
      subst e1 e2
      rw [Nat.zero_add] at *
      rw [List.getElem?_map] at hd
      obtain ⟨p, hp1, rfl⟩ := Option.map_eq_some_iff.mp hd
      have hlen := len_foldl (xs.take j) []
      have htl : (xs.take j).length ≤ xs.length := by rw [List.length_take]; omega
      have hs := setI_dic (M := M ++ [.dic false (((xs.take j).foldl (fun acc p => put acc p.1 p.2) []).map emb)]) (n := M.length) (kvs := (xs.take j).foldl (fun acc p => put acc p.1 p.2) []) (j := p.1) (d := p.2) (at_last _) (by simp at hlen; omega)
      rw [set_last] at hs
      refine ⟨[some (logD xs), some (.ref M.length), some (.int p.1), some p.2], _, .inl ?_, some (.int p.1), some p.2, rfl, rfl⟩
      have et : (xs.take (j + 1)).foldl (fun acc p => put acc p.1 p.2) [] = put ((xs.take j).foldl (fun acc p => put acc p.1 p.2) []) p.1 p.2 := by
        rw [List.take_add_one, hp1, List.foldl_append]
        rfl
      rw [et, forBody_ap, asgT_tp2]
      simp [hs]) ⟨none, none, rfl, by simp⟩
  rw [List.length_map, Nat.zero_add, List.take_length] at h1
  -- the keys are walked
  have hM : (M ++ [.dic false ((dic xs).map emb)])[M.length]? = some (.dic false ((dic xs).map emb)) := at_last _
  have h2 : lcLoop (lcBody (cfA P k) (.tup (.cons (.var 2) (.cons (.ix (.var 1) (.var 2)) .nil))) (.nm 2) (.op .isnot (.ix (.var 1) (.var 2)) (.cst .non)) [2] [some (logD xs), some (.ref M.length), o2, o3]) none ((sortI (keys (dic xs))).map .int) (M ++ [.dic false ((dic xs).map emb)]) =
      some ((sortI (keys (dic xs))).filterMap (rowOf (dic xs)), M ++ [.dic false ((dic xs).map emb)]) := by
    have := lc_pure (body := lcBody (cfA P k) (.tup (.cons (.var 2) (.cons (.ix (.var 1) (.var 2)) .nil))) (.nm 2) (.op .isnot (.ix (.var 1) (.var 2)) (.cst .non)) [2] [some (logD xs), some (.ref M.length), o2, o3]) (g := none) (M := M ++ [.dic false ((dic xs).map emb)]) (fun d => match d with
      | .int j => rowOf (dic xs) j
      | _ => none) rfl (ds := (sortI (keys (dic xs))).map .int) fun d hd => by
        obtain ⟨j, hj, rfl⟩ := List.mem_map.mp hd
        have hj2 : j ∈ keys (dic xs) := (List.mergeSort_perm _ _).mem_iff.mp hj
        obtain ⟨d, hd⟩ : ∃ d, get (dic xs) j = some d := by
          rw [get_dic]
          unfold dic at hj2
          rw [mem_foldl] at hj2
          rcases hj2 with e | e
          · exact Option.isSome_iff_exists.mp e
          · cases e
        rw [lcBody_ap]
        by_cases hn : d = .non
        · simp [wipeE, ixD_dic hM, hd, hn, rowOf]
        · simp [wipeE, ixD_dic hM, hd, hn, rowOf, line]
    rw [this, List.filterMap_map]
    rfl
  have hit : evIt (cfA P k) (.ex (.bi .sorted (.cons (.var 1) .nil))) [some (logD xs), some (.ref M.length), o2, o3] (M ++ [.dic false ((dic xs).map emb)]) = some (((sortI (keys (dic xs))).map .int, none), M ++ [.dic false ((dic xs).map emb)]) :=
    evIt_ex (x := .l ((sortI (keys (dic xs))).map .int)) (by simp [sorted_dic hM]) rfl
  have hit0 : evIt (cfA P k) (.ex (.var 0)) [some (logD xs), some (.ref M.length), none, none] (M ++ [.dic false []]) = some ((xs.map fun p => .tup [.int p.1, p.2], none), M ++ [.dic false []]) :=
    evIt_ex (x := .v (logD xs)) (by simp) rfl
  have hf := fin_app (M := M) (X := [.dic false ((dic xs).map emb)]) (pure_lo M.length _ (T_pure hp))
  unfold T at hf ⊢
  unfold dic at *
  simp [bTable, hit0, h1, hit, h2, hf]
end
end Ev
namespace Ev
open PySem
/-! ### which rows of a log are kept (no program in sight) -/
def keyAt (xs : KV) (k : Nat) : Int := ((xs[k]?).map (·.1)).getD 0
/-- no row of the first m has k's key behind k -/
def noLater (xs : KV) (m k : Nat) : Bool := ((xs.take m).drop (k + 1)).all fun p => !decide (p.1 = keyAt xs k)
def keptI (xs : KV) (place : Nat) : List Nat := (List.range xs.length).filter fun k => decide (place ≤ k) || noLater xs (min place xs.length) k
def zix (o : Nat) : KV → KV
  | [] => []
  | p :: r => (p.1, .int (o : Int)) :: zix (o + 1) r
theorem zix_none {r : KV} {j : Int} : ∀ {o : Nat}, lastv (zix o r) j = none ↔ r.all (fun p => !decide (p.1 = j)) = true := by
  induction r with
  | nil => intro o; simp [zix, lastv]
  | cons p r ih =>
    intro o
    rw [zix, lastv_cons, List.all_cons, Bool.and_eq_true, ← ih (o := o + 1)]
    by_cases h : p.1 = j
    · cases e : lastv (zix (o + 1) r) j <;> simp [h]
    · cases e : lastv (zix (o + 1) r) j <;> simp [h]
theorem zix_ge {r : KV} {j : Int} {d : D} : ∀ {o : Nat}, lastv (zix o r) j = some d → ∃ i : Nat, d = .int i ∧ o ≤ i := by
  induction r with
  | nil => intro o h; simp [zix, lastv] at h
  | cons p r ih =>
    intro o h
    rw [zix, lastv_cons] at h
    cases e : lastv (zix (o + 1) r) j with
    | some d' =>
      rw [e] at h
      cases h
      obtain ⟨i, h1, h2⟩ := ih e
      exact ⟨i, h1, by omega⟩
    | none =>
      rw [e] at h
      by_cases hp : p.1 = j
      · simp [hp] at h
        exact ⟨o, h.symm, Nat.le_refl _⟩
      · simp [hp] at h
theorem zix_at {r : KV} : ∀ {o k : Nat} (hk : k < r.length), ∃ i : Nat, lastv (zix o r) r[k].1 = some (.int i) ∧ (decide ((i : Int) = (o : Int) + k) = (r.drop (k + 1)).all fun p => !decide (p.1 = r[k].1)) := by
  induction r with
  | nil => intro o k hk; simp at hk
  | cons p r ih =>
    intro o k hk
    rw [zix]
    cases k with
    | zero =>
      rw [List.getElem_cons_zero, lastv_cons]
      cases e : lastv (zix (o + 1) r) p.1 with
      | none =>
        refine ⟨o, by simp, ?_⟩
        have := (zix_none (o := o + 1)).mp e
        rw [List.drop_succ_cons, List.drop_zero, this]
        simp
      | some d =>
        obtain ⟨i, rfl, hi⟩ := zix_ge e
        refine ⟨i, rfl, ?_⟩
        rw [List.drop_succ_cons, List.drop_zero]
        have h1 : r.all (fun q => !decide (q.1 = p.1)) ≠ true := fun w => by
          rw [(zix_none (o := o + 1)).mpr w] at e
          cases e
        have h2 : r.all (fun q => !decide (q.1 = p.1)) = false := by
          cases z : r.all (fun q => !decide (q.1 = p.1)) with
          | true => exact absurd z h1
          | false => rfl
        rw [h2]
        simp
        omega
    | succ k =>
      have hk' : k < r.length := by simpa using hk
      obtain ⟨i, h1, h2⟩ := ih (o := o + 1) hk'
      rw [List.getElem_cons_succ, lastv_cons, h1]
      refine ⟨i, rfl, ?_⟩
      rw [List.drop_succ_cons, ← h2]
      congr 1
      simp
      omega
theorem lastv_app (j : Int) : ∀ (xs ys : KV), lastv (xs ++ ys) j = (lastv ys j).or (lastv xs j)
  | [], ys => by simp [lastv]
  | p :: xs, ys => by
    rw [List.cons_append, lastv_cons, lastv_app j xs ys, lastv_cons, Option.or_assoc]
/-- the last rows of each key -/
def keepL : KV → KV
  | [] => []
  | p :: r => if r.all (fun q => !decide (q.1 = p.1)) = true then p :: keepL r else keepL r
theorem lastv_none {r : KV} {j : Int} : lastv r j = none ↔ r.all (fun p => !decide (p.1 = j)) = true := by
  induction r with
  | nil => simp [lastv]
  | cons p r ih =>
    rw [lastv_cons, List.all_cons, Bool.and_eq_true, ← ih]
    by_cases h : p.1 = j
    · cases e : lastv r j <;> simp [h]
    · cases e : lastv r j <;> simp [h]
theorem lastv_keepL (j : Int) : ∀ r : KV, lastv (keepL r) j = lastv r j
  | [] => rfl
  | p :: r => by
    rw [keepL, lastv_cons]
    split
    · rw [lastv_cons, lastv_keepL j r]
    · rename_i h
      rw [lastv_keepL j r]
      by_cases hp : p.1 = j
      · cases e : lastv r j with
        | some d => rfl
        | none =>
          rw [lastv_none, ← hp] at e
          exact absurd e h
      · simp [hp]
/-- by places -/
theorem keepL_ix : ∀ r : KV, ((List.range r.length).filter fun k => ((r.drop (k + 1)).all fun p => !decide (p.1 = keyAt r k))).map (fun k => r[k]?) = (keepL r).map some
  | [] => rfl
  | p :: r => by
    have ih := keepL_ix r
    rw [List.length_cons, List.range_succ_eq_map, List.filter_cons]
    have e0 : keyAt (p :: r) 0 = p.1 := rfl
    have e1 : ∀ k, keyAt (p :: r) (k + 1) = keyAt r k := fun k => rfl
    have tail : ((List.map Nat.succ (List.range r.length)).filter fun k => (((p :: r).drop (k + 1)).all fun q => !decide (q.1 = keyAt (p :: r) k))).map (fun k => (p :: r)[k]?) = (keepL r).map some := by
      rw [← ih, List.filter_map, List.map_map]
      rfl
    rw [keepL]
    by_cases h : r.all (fun q => !decide (q.1 = p.1)) = true
    · rw [if_pos h]
      rw [if_pos (by rw [e0]; simpa using h)]
      rw [List.map_cons, List.map_cons, tail]
      rfl
    · rw [if_neg h]
      rw [if_neg (by rw [e0]; simpa using h)]
      exact tail
end Ev
namespace Ev
open PySem
def shortL (xs : KV) (place : Nat) : KV := (keptI xs place).filterMap fun k => xs[k]?
theorem filterMap_of_map {α β : Type} {f : α → Option β} : ∀ {l : List α} {r : List β}, l.map f = r.map some → l.filterMap f = r
  | [], [], _ => rfl
  | [], _ :: _, h => by cases h
  | _ :: _, [], h => by cases h
  | a :: l, b :: r, h => by
    rw [List.map_cons, List.map_cons] at h
    have h1 := (List.cons.inj h).1
    have h2 := (List.cons.inj h).2
    rw [List.filterMap_cons, h1, filterMap_of_map h2]
section
variable {xs : KV} {place : Nat}
/-- the kept places: below, and from place on -/
theorem kept_split (xs : KV) (place : Nat) : keptI xs place = ((List.range (min place xs.length)).filter fun k => noLater xs (min place xs.length) k) ++ (List.range (xs.length - min place xs.length)).map (min place xs.length + ·) := by
  unfold keptI
  have e : List.range xs.length = List.range (min place xs.length) ++ (List.range (xs.length - min place xs.length)).map (min place xs.length + ·) := by
    rw [← List.range_add]
    congr 1
    omega
  conv => lhs; rw [e]
  rw [List.filter_append]
  congr 1
  · apply List.filter_congr
    intro k hk
    have hk := List.mem_range.mp hk
    have : ¬ place ≤ k := by omega
    simp [this]
  · rw [List.filter_eq_self]
    intro k hk
    obtain ⟨i, hi, rfl⟩ := List.mem_map.mp hk
    have hi := List.mem_range.mp hi
    have : place ≤ min place xs.length + i := by omega
    simp [this]
theorem low_kept (xs : KV) (place : Nat) : ((List.range (min place xs.length)).filter fun k => noLater xs (min place xs.length) k).map (fun k => xs[k]?) = (keepL (xs.take (min place xs.length))).map some := by
  rw [← keepL_ix]
  have hl : (xs.take (min place xs.length)).length = min place xs.length := by rw [List.length_take]; omega
  rw [hl]
  have e1 : ((List.range (min place xs.length)).filter fun k => noLater xs (min place xs.length) k) = ((List.range (min place xs.length)).filter fun k => (((xs.take (min place xs.length)).drop (k + 1)).all fun p => !decide (p.1 = keyAt (xs.take (min place xs.length)) k))) := by
    apply List.filter_congr
    intro k hk
    have hk := List.mem_range.mp hk
    unfold noLater keyAt
    rw [List.getElem?_take_of_lt hk]
  rw [e1]
  apply List.map_congr_left
  intro k hk
  have hk := List.mem_range.mp (List.mem_filter.mp hk).1
  rw [List.getElem?_take_of_lt hk]
theorem short_eq (xs : KV) (place : Nat) : shortL xs place = keepL (xs.take (min place xs.length)) ++ xs.drop (min place xs.length) := by
  unfold shortL
  rw [kept_split, List.filterMap_append, filterMap_of_map (low_kept xs place)]
  congr 1
  apply filterMap_of_map
  rw [List.map_map]
  apply List.ext_getElem?
  intro i
  rw [List.getElem?_map, List.getElem?_map, List.getElem?_drop]
  by_cases hi : i < xs.length - min place xs.length
  · rw [List.getElem?_range hi, List.getElem?_eq_getElem (show min place xs.length + i < xs.length by omega)]
    simp
  · rw [List.getElem?_eq_none (by simp; omega), List.getElem?_eq_none (by omega)]
    rfl
theorem ahead_eq (xs : KV) (place : Nat) : ((keptI xs place).filter fun k => decide (k < place)).length = (keepL (xs.take (min place xs.length))).length := by
  rw [kept_split, List.filter_append, List.length_append]
  have e1 : (((List.range (min place xs.length)).filter fun k => noLater xs (min place xs.length) k).filter fun k => decide (k < place)) = ((List.range (min place xs.length)).filter fun k => noLater xs (min place xs.length) k) := by
    rw [List.filter_eq_self]
    intro k hk
    have hk := List.mem_range.mp (List.mem_filter.mp hk).1
    exact decide_eq_true (by omega)
  have e2 : (((List.range (xs.length - min place xs.length)).map (min place xs.length + ·)).filter fun k => decide (k < place)) = [] := by
    rw [List.filter_eq_nil_iff]
    intro k hk
    obtain ⟨i, hi, rfl⟩ := List.mem_map.mp hk
    have hi := List.mem_range.mp hi
    simp
    omega
  rw [e1, e2]
  have := congrArg List.length (low_kept xs place)
  rw [List.length_map, List.length_map] at this
  simpa using this
/-- the tables of a shortened log are the log's -/
theorem short_tables [Tab] (xs : KV) (place more : Nat) : T ((shortL xs place).take ((keepL (xs.take (min place xs.length))).length + more)) = T (xs.take (min place xs.length + more)) := by
  apply T_eq
  intro j
  rw [short_eq, List.take_length_add_append, List.take_add, lastv_app, lastv_app, lastv_keepL]
theorem short_length (xs : KV) (place : Nat) : (shortL xs place).length - (keepL (xs.take (min place xs.length))).length = xs.length - min place xs.length := by
  rw [short_eq, List.length_append, List.length_drop]
  omega
theorem kept_lt {k : Nat} (h : k ∈ keptI xs place) : k < xs.length := List.mem_range.mp (List.mem_filter.mp h).1
end
end Ev
namespace Ev
open PySem
/-- kept_places -/
def bKept : Ss := (.cons (.asg (.tg (.nm 2)) (.dic false .nil)) (.cons (.for (.nm 3) (.rng (.cst (.int 0)) (.bi .min (.cons (.var 1) (.cons (.bi .len (.cons (.var 0) .nil)) .nil)))) (.cons (.asg (.sub (.var 2) (.ix (.ix (.var 0) (.var 3)) (.cst (.int 0)))) (.var 3)) .nil)) (.cons (.ret (.bi .tuple (.cons (.lc (.var 3) (.nm 3) (.rng (.cst (.int 0)) (.bi .len (.cons (.var 0) .nil))) (.or (.op .ge (.var 3) (.var 1)) (.op .eq (.ix (.var 2) (.ix (.ix (.var 0) (.var 3)) (.cst (.int 0)))) (.var 3))) [3]) .nil))) .nil)))
def bShort (j : Nat) : Ss := (.cons (.ret (.bi .tuple (.cons (.lc (.ix (.var 0) (.var 2)) (.nm 2) (.ex (.call j (.cons (.var 0) (.cons (.var 1) .nil)))) (.cst (.bl true)) [2]) .nil))) .nil)
def nats (l : List Nat) : List D := l.map fun (k : Nat) => D.int (k : Int)
section
variable [Tab] {P : List FD} {i k : Nat} {cf : Cf} {v : Env} {M : Mem} {xs : KV} {place : Nat}
theorem at_log {z : Nat} (h : z < xs.length) : L2.atI (xs.map fun p => D.tup [.int p.1, p.2]) (z : Int) = some (.tup [.int xs[z].1, xs[z].2]) := by
  rw [atI_nat, List.getElem?_map, List.getElem?_eq_getElem h]
  rfl
theorem at_zero {x y : D} : L2.atI [x, y] 0 = some x := rfl
theorem min_int (place n : Nat) : (if (n : Int) < (place : Int) then (n : Int) else (place : Int)) = ((min place n : Nat) : Int) := by
  split <;> omega
theorem min_nat (place n : Nat) : (if n < place then (n : Int) else (place : Int)) = ((min place n : Nat) : Int) := by
  split <;> omega
theorem fm_filter {α β : Type} {f : α → Bool} {g : α → Option β} {h : α → β} : ∀ {l : List α}, (∀ a ∈ l, g a = if f a = true then some (h a) else none) → l.filterMap g = (l.filter f).map h
  | [], _ => rfl
  | a :: l, q => by
    rw [List.filterMap_cons, List.filter_cons, q a List.mem_cons_self, fm_filter fun b hb => q b (List.mem_cons_of_mem _ hb)]
    by_cases w : f a = true
    · simp [w]
    · simp [w]
theorem filterMap_range (n : Nat) (f : Nat → Bool) (g : D → Option D) (h : ∀ k : Nat, k < n → g (.int k) = if f k = true then some (.int k) else none) : (rangeD 0 n).filterMap g = nats ((List.range n).filter f) := by
  have e : rangeD 0 (n : Int) = (List.range n).map fun (k : Nat) => D.int (k : Int) := by
    unfold rangeD
    rw [show ((n : Int) - 0).toNat = n by omega]
    apply List.map_congr_left
    intro k _
    rw [Int.zero_add]
  rw [e, List.filterMap_map]
  exact fm_filter fun k hk => h k (List.mem_range.mp hk)
theorem kept_ok (h : P[i]? = some ⟨2, 4, bKept⟩) (hl : xs.length ≤ 100000) (hplace : place ≤ 100000) : callAt P (k + 1) i [logD xs, .int place] M = some (.tup (nats (keptI xs place)), M) := by
  rw [call_eq h rfl]
  have hline : line = 16000000 := rfl
  have hfold : ∀ m : Nat, m < xs.length → (zix 0 (xs.take (m + 1))).foldl (fun acc p => put acc p.1 p.2) [] = put ((zix 0 (xs.take m)).foldl (fun acc p => put acc p.1 p.2) []) (xs[m]?.map (·.1) |>.getD 0) (.int m) := by
    have zapp : ∀ (a b : KV) (o : Nat), zix o (a ++ b) = zix o a ++ zix (o + a.length) b := by
      intro a
      induction a with
      | nil => intro b o; simp [zix]
      | cons p a ih => intro b o; simp [zix, ih]; congr 1; omega
    intro m hm
    rw [List.take_add_one, List.getElem?_eq_getElem hm, zapp, List.foldl_append]
    simp [zix]
    congr 2
    omega
  have hzl : ∀ m : Nat, (zix 0 (xs.take m)).length ≤ xs.length := by
    have : ∀ (a : KV) (o : Nat), (zix o a).length = a.length := by
      intro a
      induction a with
      | nil => intro o; rfl
      | cons p a ih => intro o; simp [zix, ih]
    intro m
    rw [this, List.length_take]
    omega
  -- the last places
  obtain ⟨v', M', h1, o3, rfl, rfl⟩ := for_ok (b := forBody (cfA P k) (.nm 3) (.cons (.asg (.sub (.var 2) (.ix (.ix (.var 0) (.var 3)) (.cst (.int 0)))) (.var 3)) .nil)) (g := none)
    (fun j v M' => ∃ o3, v = [some (logD xs), some (.int place), some (.ref M.length), o3] ∧ M' = M ++ [.dic false (((zix 0 (xs.take j)).foldl (fun acc p => put acc p.1 p.2) []).map emb)]) (fun _ _ _ _ => rfl)
    (ds := rangeD 0 (min place xs.length : Nat)) (j := 0) (v := [some (logD xs), some (.int place), some (.ref M.length), none]) (M := M ++ [.dic false []]) (fun j d v M' hd ⟨o3, e1, e2⟩ => by
      subst e1 e2
      rw [Nat.zero_add] at *
      obtain ⟨rfl, hj⟩ := rangeD_at hd
      have hjn : j < xs.length := by omega
      have hlen := len_foldl (zix 0 (xs.take j)) []
      have htl := hzl j
      have hs := setI_dic (M := M ++ [.dic false (((zix 0 (xs.take j)).foldl (fun acc p => put acc p.1 p.2) []).map emb)]) (n := M.length) (kvs := (zix 0 (xs.take j)).foldl (fun acc p => put acc p.1 p.2) []) (j := xs[j].1) (d := .int j) (at_last _) (by simp at hlen; omega)
      rw [set_last] at hs
      refine ⟨[some (logD xs), some (.int place), some (.ref M.length), some (.int j)], _, .inl ?_, some (.int j), rfl, rfl⟩
      rw [hfold j hjn, forBody_ap]
      simp [logD, at_log hjn, at_zero, List.getElem?_eq_getElem hjn, hs]) ⟨none, rfl, by simp [zix]⟩
  rw [rangeD_len, show (((min place xs.length : Nat) : Int) - 0).toNat = min place xs.length by omega, Nat.zero_add] at h1
  -- the places that are kept
  have hM : (M ++ [.dic false (((zix 0 (xs.take (min place xs.length))).foldl (fun acc p => put acc p.1 p.2) []).map emb)])[M.length]? = some (.dic false (((zix 0 (xs.take (min place xs.length))).foldl (fun acc p => put acc p.1 p.2) []).map emb)) := at_last _
  have h2 : lcLoop (lcBody (cfA P k) (.var 3) (.nm 3) (.or (.op .ge (.var 3) (.var 1)) (.op .eq (.ix (.var 2) (.ix (.ix (.var 0) (.var 3)) (.cst (.int 0)))) (.var 3))) [3] [some (logD xs), some (.int place), some (.ref M.length), o3]) none (rangeD 0 xs.length) (M ++ [.dic false (((zix 0 (xs.take (min place xs.length))).foldl (fun acc p => put acc p.1 p.2) []).map emb)]) =
      some (nats (keptI xs place), M ++ [.dic false (((zix 0 (xs.take (min place xs.length))).foldl (fun acc p => put acc p.1 p.2) []).map emb)]) := by
    have := lc_pure (body := lcBody (cfA P k) (.var 3) (.nm 3) (.or (.op .ge (.var 3) (.var 1)) (.op .eq (.ix (.var 2) (.ix (.ix (.var 0) (.var 3)) (.cst (.int 0)))) (.var 3))) [3] [some (logD xs), some (.int place), some (.ref M.length), o3]) (g := none) (M := M ++ [.dic false (((zix 0 (xs.take (min place xs.length))).foldl (fun acc p => put acc p.1 p.2) []).map emb)]) (fun d => match d with
      | .int z => if (decide ((place : Int) ≤ z) || noLater xs (min place xs.length) z.toNat) = true then some (.int z) else none
      | _ => none) rfl (ds := rangeD 0 xs.length) fun d hd => by
        obtain ⟨z, rfl, h0, hz⟩ := rangeD_mem hd
        obtain ⟨z, rfl⟩ := Int.eq_ofNat_of_zero_le h0
        have hzn : z < xs.length := by omega
        rw [lcBody_ap]
        by_cases hp : (place : Int) ≤ (z : Int)
        · simp [wipeE, hp]
        · have hzm : z < (xs.take (min place xs.length)).length := by rw [List.length_take]; omega
          obtain ⟨i, q1, q2⟩ := zix_at (o := 0) hzm
          have eg : (xs.take (min place xs.length))[z] = xs[z] := by rw [List.getElem_take]
          rw [eg] at q1 q2
          have hget : get ((zix 0 (xs.take (min place xs.length))).foldl (fun acc p => put acc p.1 p.2) []) xs[z].1 = some (.int i) := by
            rw [← q1]
            exact get_dic _ _
          have hk : keyAt xs z = xs[z].1 := by unfold keyAt; rw [List.getElem?_eq_getElem hzn]; rfl
          have q3 : noLater xs (min place xs.length) z = decide ((i : Int) = (z : Int)) := by
            unfold noLater
            rw [hk, ← q2]
            simp
          simp only [Int.ofNat_eq_natCast] at *
          simp [wipeE, hp, logD, at_log hzn, at_zero, ixD_dic hM, hget, q3]
          by_cases hiz : (i : Int) = (z : Int)
          · rw [if_pos hiz, if_pos hiz]
          · rw [if_neg hiz, if_neg hiz]
    rw [this, filterMap_range xs.length (fun k => decide (place ≤ k) || noLater xs (min place xs.length) k) _ fun k hk => by
      show (if (decide ((place : Int) ≤ (k : Int)) || noLater xs (min place xs.length) (k : Int).toNat) = true then _ else _) = _
      rw [Int.toNat_natCast, show decide ((place : Int) ≤ (k : Int)) = decide (place ≤ k) by simp]]
    rfl
  have hr1 : evIt (cfA P k) (.rng (.cst (.int 0)) (.bi .min (.cons (.var 1) (.cons (.bi .len (.cons (.var 0) .nil)) .nil)))) [some (logD xs), some (.int place), some (.ref M.length), none] (M ++ [.dic false []]) = some ((rangeD 0 (min place xs.length : Nat), none), M ++ [.dic false []]) :=
    rng_ok (M1 := M ++ [.dic false []]) (by simp) (by simp [logD]; exact min_nat place xs.length) (by omega)
  have hr2 : evIt (cfA P k) (.rng (.cst (.int 0)) (.bi .len (.cons (.var 0) .nil))) [some (logD xs), some (.int place), some (.ref M.length), o3] (M ++ [.dic false (((zix 0 (xs.take (min place xs.length))).foldl (fun acc p => put acc p.1 p.2) []).map emb)]) = some ((rangeD 0 xs.length, none), M ++ [.dic false (((zix 0 (xs.take (min place xs.length))).foldl (fun acc p => put acc p.1 p.2) []).map emb)]) :=
    rng_ok (M1 := M ++ [.dic false (((zix 0 (xs.take (min place xs.length))).foldl (fun acc p => put acc p.1 p.2) []).map emb)]) (by simp) (by simp [logD]) (by omega)
  have hlo : (D.tup (nats (keptI xs place))).lo M.length = true := pure_lo _ _ (by
    rw [D.pure, pures_iff]
    intro d hd
    unfold nats at hd
    obtain ⟨k, _, rfl⟩ := List.mem_map.mp hd
    rfl)
  have hf := fin_app (M := M) (X := [.dic false (((zix 0 (xs.take (min place xs.length))).foldl (fun acc p => put acc p.1 p.2) []).map emb)]) hlo
  simp [bKept, hr1, h1, hr2, h2, hf]
end
end Ev
namespace Ev
open PySem
section
variable [Tab] {P : List FD} {i k : Nat} {cf : Cf} {v : Env} {M : Mem} {xs : KV} {place : Nat}
theorem pys_int : ∀ ks : List Int, D.pys (ks.map D.int) = ks.map PyData.int
  | [] => rfl
  | a :: ks => by rw [List.map_cons, D.pys, pys_int ks]; rfl
theorem pures_int : ∀ ks : List Int, D.pures (ks.map D.int) = true
  | [] => rfl
  | a :: ks => by rw [List.map_cons, D.pures, pures_int ks]; rfl
theorem lay_int : ∀ ks : List Int, PyData.canLayAll0 (ks.map PyData.int) = true
  | [] => by simp [PyData.canLayAll0]
  | a :: ks => by rw [List.map_cons, PyData.canLayAll0, lay_int ks]; simp [PyData.canLay0]
theorem depth_int : ∀ ks : List Int, PyData.depthAll (ks.map PyData.int) ≤ 1
  | [] => by simp [PyData.depthAll]
  | a :: ks => by
    have := depth_int ks
    rw [List.map_cons, PyData.depthAll]
    simp [PyData.depth]
    omega
theorem shaped_int (ks : List Int) : SeqAt.shaped (.list (ks.map .int)) = true := by
  unfold SeqAt.shaped
  rw [Bool.and_eq_true]
  refine ⟨by rw [PyData.canLay0]; exact lay_int ks, decide_eq_true ?_⟩
  have := depth_int ks
  rw [PyData.depth]
  omega
theorem op2_eq_nil (L : List Int) : op2 .eq (.l (L.map .int)) (.l []) M = some (.v (.bl L.isEmpty), M) := by
  have e1 : ∀ L : List Int, pyOf M (.l (L.map .int)) = some (.list (L.map .int)) := fun L => by
    show (if D.pures _ = true then _ else _) = _
    rw [if_pos (pures_int L), pys_int]
  have e : eqA M (.l (L.map .int)) (.l []) = some L.isEmpty := by
    unfold eqA
    rw [e1 L, show pyOf M (.l []) = some (.list []) from e1 []]
    dsimp only
    rw [shaped_int L, show SeqAt.shaped (.list []) = true from shaped_int []]
    cases L with
    | nil => simp [PyData.eqv, PyData.eqvAll]
    | cons a L => simp [PyData.eqv, PyData.eqvAll]
  unfold op2
  dsimp only
  rw [e]
  rfl
/-- the shortened log -/
theorem short_ok (h : P[i]? = some ⟨2, 3, bShort k⟩) {j : Nat} (hk : P[k]? = some ⟨2, 4, bKept⟩) (hl : xs.length ≤ 100000) (hplace : place ≤ 100000) : callAt P (j + 2) i [logD xs, .int place] M = some (logD (shortL xs place), M) := by
  rw [call_eq h rfl]
  have hc := kept_ok (k := j) (M := M) hk hl hplace
  have hit : evIt (cfA P (j + 1)) (.ex (.call k (.cons (.var 0) (.cons (.var 1) .nil)))) [some (logD xs), some (.int place), none] M = some ((nats (keptI xs place), none), M) :=
    evIt_ex (x := .v (.tup (nats (keptI xs place)))) (by simp [hc]) rfl
  have h2 : lcLoop (lcBody (cfA P (j + 1)) (.ix (.var 0) (.var 2)) (.nm 2) (.cst (.bl true)) [2] [some (logD xs), some (.int place), none]) none (nats (keptI xs place)) M = some ((shortL xs place).map fun p => .tup [.int p.1, p.2], M) := by
    have := lc_pure (body := lcBody (cfA P (j + 1)) (.ix (.var 0) (.var 2)) (.nm 2) (.cst (.bl true)) [2] [some (logD xs), some (.int place), none]) (g := none) (M := M) (fun d => match d with
      | .int z => (xs[z.toNat]?).map fun p => .tup [.int p.1, p.2]
      | _ => none) rfl (ds := nats (keptI xs place)) fun d hd => by
        unfold nats at hd
        obtain ⟨z, hz, rfl⟩ := List.mem_map.mp hd
        have hzn := kept_lt hz
        rw [lcBody_ap]
        simp [wipeE, logD, at_log hzn, List.getElem?_eq_getElem hzn]
    rw [this]
    unfold nats shortL
    rw [List.filterMap_map, List.map_filterMap]
    rfl
  have hf : fin M (logD (shortL xs place)) M = (logD (shortL xs place), M) := fin_self
  unfold logD at hf ⊢
  unfold logD at hit h2
  simp [bShort, hit, h2, hf]
/-- .. the law's own -/
def eLater : E := (.op .eq (.lc (.var 7) (.nm 7) (.rng (.op .add (.var 4) (.cst (.int 1))) (.bi .min (.cons (.var 5) (.cons (.bi .len (.cons (.var 3) .nil)) .nil)))) (.op .eq (.ix (.ix (.var 3) (.var 7)) (.cst (.int 0))) (.ix (.ix (.var 3) (.var 4)) (.cst (.int 0)))) [7]) (.lst .nil))
theorem later_ok {a0 a1 a2 o6 o7 o8 o9 o10 : Option D} {z : Nat} (hz : z < xs.length) (hl : xs.length ≤ 100000) (hplace : place ≤ 100000) :
    ev cf eLater [a0, a1, a2, some (logD xs), some (.int z), some (.int place), o6, o7, o8, o9, o10] M = some (.v (.bl (noLater xs (min place xs.length) z)), M) := by
  have hr : evIt cf (.rng (.op .add (.var 4) (.cst (.int 1))) (.bi .min (.cons (.var 5) (.cons (.bi .len (.cons (.var 3) .nil)) .nil)))) [a0, a1, a2, some (logD xs), some (.int z), some (.int place), o6, o7, o8, o9, o10] M = some ((rangeD ((z : Int) + 1) (min place xs.length : Nat), none), M) :=
    rng_ok (M1 := M) (by simp) (by simp [logD]; exact min_nat place xs.length) (by omega)
  have h2 : lcLoop (lcBody cf (.var 7) (.nm 7) (.op .eq (.ix (.ix (.var 3) (.var 7)) (.cst (.int 0))) (.ix (.ix (.var 3) (.var 4)) (.cst (.int 0)))) [7] [a0, a1, a2, some (logD xs), some (.int z), some (.int place), o6, o7, o8, o9, o10]) none (rangeD ((z : Int) + 1) (min place xs.length : Nat)) M =
      some ((((List.range (min place xs.length - (z + 1))).filter fun t => decide (keyAt xs (z + 1 + t) = keyAt xs z)).map fun (t : Nat) => (z : Int) + 1 + (t : Int)).map .int, M) := by
    have := lc_pure (body := lcBody cf (.var 7) (.nm 7) (.op .eq (.ix (.ix (.var 3) (.var 7)) (.cst (.int 0))) (.ix (.ix (.var 3) (.var 4)) (.cst (.int 0)))) [7] [a0, a1, a2, some (logD xs), some (.int z), some (.int place), o6, o7, o8, o9, o10]) (g := none) (M := M) (fun d => match d with
      | .int j => if keyAt xs j.toNat = keyAt xs z then some (.int j) else none
      | _ => none) rfl (ds := rangeD ((z : Int) + 1) (min place xs.length : Nat)) fun d hd => by
        obtain ⟨j, rfl, h0, hj⟩ := rangeD_mem hd
        obtain ⟨j, rfl⟩ := Int.eq_ofNat_of_zero_le (show 0 ≤ j by omega)
        have hjn : j < xs.length := by simp at hj; omega
        have e1 : keyAt xs j = xs[j].1 := by unfold keyAt; rw [List.getElem?_eq_getElem hjn]; rfl
        have e2 : keyAt xs z = xs[z].1 := by unfold keyAt; rw [List.getElem?_eq_getElem hz]; rfl
        rw [lcBody_ap]
        simp only [Int.ofNat_eq_natCast] at *
        simp [wipeE, logD, at_log hjn, at_log hz, at_zero, e1, e2]
        by_cases q : xs[j].1 = xs[z].1
        · rw [if_pos q, if_pos q]
        · rw [if_neg q, if_neg q]
    rw [this]
    refine congrArg (fun l => some (l, M)) ?_
    unfold rangeD
    rw [show (((min place xs.length : Nat) : Int) - ((z : Int) + 1)).toNat = min place xs.length - (z + 1) by omega, List.filterMap_map, List.map_map]
    apply fm_filter
    intro t _
    show (if keyAt xs ((z : Int) + 1 + (t : Int)).toNat = keyAt xs z then some (D.int ((z : Int) + 1 + (t : Int))) else none) = _
    rw [show ((z : Int) + 1 + (t : Int)).toNat = z + 1 + t by omega]
    by_cases q : keyAt xs (z + 1 + t) = keyAt xs z
    · rw [if_pos q, if_pos (by simpa using q)]
      rfl
    · rw [if_neg q, if_neg (by simpa using q)]
  have e3 : ((((List.range (min place xs.length - (z + 1))).filter fun t => decide (keyAt xs (z + 1 + t) = keyAt xs z)).map fun (t : Nat) => (z : Int) + 1 + (t : Int))).isEmpty = noLater xs (min place xs.length) z := by
    rw [Bool.eq_iff_iff, List.isEmpty_iff, List.map_eq_nil_iff, List.filter_eq_nil_iff]
    unfold noLater
    rw [List.all_eq_true]
    constructor
    · intro q p hp
      obtain ⟨t, ht, rfl⟩ := List.mem_iff_getElem.mp hp
      rw [List.length_drop, List.length_take] at ht
      have := q t (List.mem_range.mpr (by omega))
      rw [List.getElem_drop, List.getElem_take]
      have e1 : keyAt xs (z + 1 + t) = (xs[z + 1 + t]'(by omega)).1 := by unfold keyAt; rw [List.getElem?_eq_getElem (by omega)]; rfl
      rw [e1] at this
      simpa using this
    · intro q t ht
      have ht := List.mem_range.mp ht
      have e1 : keyAt xs (z + 1 + t) = (xs[z + 1 + t]'(by omega)).1 := by unfold keyAt; rw [List.getElem?_eq_getElem (by omega)]; rfl
      have := q (xs[z + 1 + t]'(by omega)) (by
        rw [List.mem_iff_getElem]
        refine ⟨t, by rw [List.length_drop, List.length_take]; omega, ?_⟩
        rw [List.getElem_drop, List.getElem_take])
      rw [e1]
      simpa using this
  have hz0 : (0 : Nat) ≤ line := Nat.zero_le _
  simp [eLater, hr, h2]
  rw [← List.map_map, op2_eq_nil, e3]
theorem kept_law {a0 a1 a2 o4 o6 o7 o8 o9 o10 : Option D} (hl : xs.length ≤ 100000) (hplace : place ≤ 100000) :
    lcLoop (lcBody cf (.var 4) (.nm 4) (.or (.op .ge (.var 4) (.var 5)) eLater) [4] [a0, a1, a2, some (logD xs), o4, some (.int place), o6, o7, o8, o9, o10]) none (rangeD 0 xs.length) M = some (nats (keptI xs place), M) := by
  have := lc_pure (body := lcBody cf (.var 4) (.nm 4) (.or (.op .ge (.var 4) (.var 5)) eLater) [4] [a0, a1, a2, some (logD xs), o4, some (.int place), o6, o7, o8, o9, o10]) (g := none) (M := M) (fun d => match d with
      | .int z => if (decide ((place : Int) ≤ z) || noLater xs (min place xs.length) z.toNat) = true then some (.int z) else none
      | _ => none) rfl (ds := rangeD 0 xs.length) fun d hd => by
        obtain ⟨z, rfl, h0, hz⟩ := rangeD_mem hd
        obtain ⟨z, rfl⟩ := Int.eq_ofNat_of_zero_le h0
        have hzn : z < xs.length := by omega
        have hla := later_ok (cf := cf) (M := M) (a0 := a0) (a1 := a1) (a2 := a2) (o6 := o6) (o7 := o7) (o8 := o8) (o9 := o9) (o10 := o10) hzn hl hplace
        rw [lcBody_ap]
        simp only [Int.ofNat_eq_natCast] at *
        by_cases hp : (place : Int) ≤ (z : Int)
        · simp [wipeE, hp]
        · simp [wipeE, hp, hla]
          by_cases q : noLater xs (min place xs.length) z = true
          · rw [if_pos q, if_pos q]
          · rw [if_neg q, if_neg q]
  rw [this, filterMap_range xs.length (fun k => decide (place ≤ k) || noLater xs (min place xs.length) k) _ fun k hk => by
      show (if (decide ((place : Int) ≤ (k : Int)) || noLater xs (min place xs.length) (k : Int).toNat) = true then _ else _) = _
      rw [Int.toNat_natCast, show decide ((place : Int) ≤ (k : Int)) = decide (place ≤ k) by simp]]
  rfl
end
end Ev
namespace Ev
open PySem
/-- the draws' book stands at 2, the draws at 1 -/
def WM (ds : List Int) (M : Mem) : Prop := ∃ n : Nat, M[2]? = some (wO 1 n) ∧ M[1]? = some (.lst (ds.map .int))
theorem WM.app {ds : List Int} {M : Mem} (h : WM ds M) (X : Mem) : WM ds (M ++ X) := by
  obtain ⟨n, h1, h2⟩ := h
  have l1 := (List.getElem?_eq_some_iff.mp h1).1
  have l2 := (List.getElem?_eq_some_iff.mp h2).1
  exact ⟨n, by rw [List.getElem?_append_left l1]; exact h1, by rw [List.getElem?_append_left l2]; exact h2⟩
theorem WM.set {ds : List Int} {M : Mem} (h : WM ds M) (n : Nat) : WM ds (M.set 2 (wO 1 n)) := by
  obtain ⟨m, h1, h2⟩ := h
  have l1 := (List.getElem?_eq_some_iff.mp h1).1
  exact ⟨n, List.getElem?_set_self l1, by rw [List.getElem?_set_ne (by decide)]; exact h2⟩
section
variable [Tab] {P : List FD} {i k j : Nat} {cf : Cf} {v : Env} {M : Mem} {ds : List Int}
/-- the next draw, below m -/
theorem next_w (hn : P[j]? = some ⟨2, 2, bNext⟩) (hd : ds.length ≤ line) (h : WM ds M) {m : Int} (hm : 0 < m) : ∃ (c : Nat) (M' : Mem), callAt P (k + 1) j [.ref 2, .int m] M = some (.int c, M') ∧ (c : Int) < m ∧ WM ds M' ∧ M'.length = M.length := by
  obtain ⟨n, h1, h2⟩ := id h
  have e := next_ok (k := k) hn h1 h2 hm hd
  obtain ⟨b1, b2⟩ := nxt_lt (ds := ds) (n := n) hm
  refine ⟨(nxt ds n m).toNat, _, ?_, by omega, h.set (n + 1), by simp⟩
  rw [e, show (((nxt ds n m).toNat : Nat) : Int) = nxt ds n m by omega]
/-- one of a new list's values -/
theorem pick_w {jn : Nat} (h : P[i]? = some ⟨2, 2, bPick jn⟩) (hn : P[jn]? = some ⟨2, 2, bNext⟩) (hd : ds.length ≤ line) (hw : WM ds M) {xs : List D} (hx : xs ≠ []) (hp : ∀ d ∈ xs, d.pure = true) :
    ∃ x M', callAt P (k + 2) i [.ref 2, .ref M.length] (M ++ [.lst xs]) = some (x, M') ∧ x ∈ xs ∧ WM ds M' := by
  obtain ⟨n, h1, h2⟩ := hw.app [.lst xs]
  obtain ⟨x, hx1, hx2⟩ := pick_ref (k := k) h hn h1 h2 (at_last _) hx (pures_los _ _ (pures_iff.mpr hp)) hd
  exact ⟨x, _, hx2, List.mem_of_getElem? hx1, (hw.app _).set _⟩
theorem itemsOf_ref' {n : Nat} {l : List D} (h : M[n]? = some (.lst l)) : itemsOf M (.v (.ref n)) = some l := by
  unfold itemsOf
  simp only [h]
theorem still_some {n : Nat} {o : MO} (h : M[n]? = some o) : still M (some (n, o)) = true := by
  unfold still
  exact decide_eq_true h
theorem guardOf_ref {n : Nat} {o : MO} (h : M[n]? = some o) : guardOf M (.v (.ref n)) = some (n, o) := by
  show (M[n]?).map _ = _
  rw [h]
  rfl
end
/-! ### the law of shortened logs -/
structure K43 (P : List FD) : Prop where
  h0 : P[0]? = some ⟨1, 4, bTable⟩
  h1 : P[1]? = some ⟨2, 4, bKept⟩
  h2 : P[2]? = some ⟨2, 3, bShort 1⟩
  h3 : P[3]? = some ⟨2, 8, bDraws⟩
  h4 : P[4]? = some ⟨2, 2, bNext⟩
  h5 : P[5]? = some ⟨2, 2, bPick 4⟩
  h6 : P[6]? = some ⟨2, 3, bAlike 6⟩
  h7 : P[7]? = some ⟨1, 4, bTable⟩
def Okv (d : D) : Prop := d ∈ [D.non, .int 0, .int 1, .int 2]
theorem Okv.flat {d : D} (h : Okv d) : Flat d := by
  simp [Okv] at h
  rcases h with rfl | rfl | rfl | rfl
  · exact .inl rfl
  · exact .inr (.inr (.inl ⟨_, rfl⟩))
  · exact .inr (.inr (.inl ⟨_, rfl⟩))
  · exact .inr (.inr (.inl ⟨_, rfl⟩))
theorem Okv.pure {d : D} (h : Okv d) : d.pure = true := by
  simp [Okv] at h
  rcases h with rfl | rfl | rfl | rfl <;> rfl
def rowD (p : Int × D) : D := .tup [.int p.1, p.2]
section
variable [Tab] {P : List FD} {M : Mem} {ds : List Int} {xs : KV} {place : Nat}
theorem log_fit (h : ∀ p ∈ xs, Okv p.2) (hl : xs.length ≤ 1000000) : Fit 2 (logD xs) := by
  refine .inr ⟨_, rfl, by simpa using hl, fun e he => ?_⟩
  obtain ⟨p, hp, rfl⟩ := List.mem_map.mp he
  refine .inr ⟨_, rfl, by simp, fun e he => ?_⟩
  simp at he
  rcases he with rfl | rfl
  · exact .inr (.inr (.inl ⟨_, rfl⟩))
  · exact (h p hp).flat
theorem T_fit (h : ∀ p ∈ xs, Okv p.2) (hl : xs.length ≤ 1000000) : Fit 2 (T xs) := by
  refine .inr ⟨_, rfl, ?_, fun e he => ?_⟩
  · refine Nat.le_trans (List.length_filterMap_le _ _) ?_
    unfold sortI
    rw [List.length_mergeSort]
    unfold keys
    rw [List.length_map]
    have := len_foldl xs []
    unfold dic
    simp at this
    omega
  · obtain ⟨j, hj, e⟩ := List.mem_filterMap.mp he
    unfold rowOf at e
    split at e
    · rename_i d hd
      split at e
      · cases e
      · cases e
        rw [get_dic] at hd
        have hok := h _ (lastv_mem hd)
        refine .inr ⟨_, rfl, by simp, fun e he => ?_⟩
        simp at he
        rcases he with rfl | rfl
        · exact .inr (.inr (.inl ⟨_, rfl⟩))
        · exact hok.flat
    · cases e
theorem nats_fit {l : List Nat} (hl : l.length ≤ 1000000) : Fit 2 (.tup (nats l)) := by
  refine .inr ⟨_, rfl, by simpa [nats] using hl, fun e he => ?_⟩
  unfold nats at he
  obtain ⟨p, hp, rfl⟩ := List.mem_map.mp he
  exact Flat.fit (.inr (.inr (.inl ⟨_, rfl⟩))) _
/-- a log is drawn -/
def eLog : E := (.bi .tuple (.cons (.lc (.tup (.cons (.call 4 (.cons (.var 1) (.cons (.cst (.int 3)) .nil))) (.cons (.call 5 (.cons (.var 1) (.cons (.lst (.cons (.cst .non) (.cons (.cst (.int 0)) (.cons (.cst (.int 1)) (.cons (.cst (.int 2)) .nil))))) .nil))) .nil))) (.nm 4) (.rng (.cst (.int 0)) (.call 4 (.cons (.var 1) (.cons (.cst (.int 10)) .nil)))) (.cst (.bl true)) [4]) .nil))
theorem log_ok (K : K43 P) (hd : ds.length ≤ line) (hw : WM ds M) {a0 a2 a3 a4 a5 a6 a7 a8 a9 a10 : Option D} : ∃ xs M', ev (cfA P 39) eLog [a0, some (.ref 2), a2, a3, a4, a5, a6, a7, a8, a9, a10] M = some (.v (logD xs), M') ∧ WM ds M' ∧ xs.length ≤ 10 ∧ ∀ p ∈ xs, Okv p.2 := by
  obtain ⟨c, M1, q1, q2, q3, _⟩ := next_w (k := 38) K.h4 hd hw (m := 10) (by decide)
  have hit : evIt (cfA P 39) (.rng (.cst (.int 0)) (.call 4 (.cons (.var 1) (.cons (.cst (.int 10)) .nil)))) [a0, some (.ref 2), a2, a3, a4, a5, a6, a7, a8, a9, a10] M = some ((rangeD 0 c, none), M1) :=
    rng_ok (M1 := M) (by simp) (by simp [q1]) (by omega)
  obtain ⟨rs, M2, e1, e2, xs, e3, e4, e5⟩ := lc_ok (body := lcBody (cfA P 39) (.tup (.cons (.call 4 (.cons (.var 1) (.cons (.cst (.int 3)) .nil))) (.cons (.call 5 (.cons (.var 1) (.cons (.lst (.cons (.cst .non) (.cons (.cst (.int 0)) (.cons (.cst (.int 1)) (.cons (.cst (.int 2)) .nil))))) .nil))) .nil))) (.nm 4) (.cst (.bl true)) [4] [a0, some (.ref 2), a2, a3, a4, a5, a6, a7, a8, a9, a10]) (g := none)
    (fun j acc M => WM ds M ∧ ∃ xs : KV, acc = xs.map rowD ∧ xs.length = j ∧ ∀ p ∈ xs, Okv p.2) (fun _ _ _ _ => rfl) (ds := rangeD 0 c) (j := 0) (acc := []) (M := M1) (fun i d acc M hd' ⟨hw, xs, e3, e4, e5⟩ => by
      obtain ⟨b, M2, r1, r2, r3, _⟩ := next_w (k := 38) K.h4 hd hw (m := 3) (by decide)
      obtain ⟨x, M3, s1, s2, s3⟩ := pick_w (k := 37) K.h5 K.h4 hd r3 (xs := [D.non, .int 0, .int 1, .int 2]) (by simp) (by simp [D.pure])
      refine ⟨some (.tup [.int b, x]), M3, ?_, s3, xs ++ [((b : Int), x)], ?_, by simp [e4], fun p hp => ?_⟩
      · rw [lcBody_ap]
        simp [wipeE, r1, s1, line]
      · subst e3
        simp [rowD]
      · rcases List.mem_append.mp hp with hp | hp
        · exact e5 p hp
        · simp at hp
          subst hp
          exact s2) ⟨q3, [], rfl, rfl, fun _ h => by cases h⟩
  rw [List.nil_append] at e3
  rw [rangeD_len] at e4
  refine ⟨xs, M2, ?_, e2, by omega, e5⟩
  subst e3
  simp [eLog, hit, e1]
  rfl
end
end Ev
namespace Ev
open PySem
/-! ### workers that fall -/
def bTold : Ss := (.cons (.asg (.tg (.nm 3)) (.mk 0 (.cons (.var 0) (.cons (.var 2) .nil)))) (.cons (.asg (.tg (.nm 4)) (.tup .nil)) (.cons (.for (.nm 5) (.ex (.var 1)) (.cons (.asg (.tg (.nm 4)) (.op .add (.var 4) (.meth (.var 3) (some 7) none (.cons (.var 5) .nil)))) .nil)) (.cons (.ret (.var 4)) .nil))))
def bLTold : Ss := (.cons (.asg (.tg (.tp [(.nm 3), (.nm 4), (.nm 5), (.nm 6), (.nm 7), (.nm 8)])) (.tup (.cons (.cst (.int 0)) (.cons (.cst (.int 0)) (.cons (.tup (.cons (.cst (.int 0)) (.cons (.cst (.int 0)) .nil))) (.cons (.tup .nil) (.cons (.cst (.int 0)) (.cons (.lst .nil) .nil)))))))) (.cons (.for (.nm 9) (.ex (.var 1)) (.cons (.asg (.tg (.nm 10)) (.tup .nil)) (.cons (.ite (.and (.op .eq (.var 9) (.cst (.str "step"))) (.op .lt (.var 3) (.bi .len (.cons (.var 0) .nil)))) (.cons (.aug 4 .add (.ix (.var 0) (.var 3))) (.cons (.ite (.op .eq (.var 2) (.cst (.str "seldom"))) (.cons (.asg (.tg (.nm 6)) (.op .add (.var 6) (.tup (.cons (.tup (.cons (.var 3) (.cons (.var 4) .nil))) .nil)))) .nil) (.cons (.ite (.or (.op .eq (.var 2) (.cst (.str "again"))) (.op .eq (.var 3) (.var 7))) (.cons (.asg (.tg (.nm 10)) (.tup (.cons (.tup (.cons (.var 3) (.cons (.var 4) .nil))) .nil))) (.cons (.asg (.tg (.nm 7)) (.op .add (.var 3) (.cst (.int 1)))) .nil)) .nil) .nil)) (.cons (.aug 3 .add (.cst (.int 1))) .nil))) (.cons (.ite (.op .eq (.var 9) (.cst (.str "keep"))) (.cons (.par [10, 6, 5] (.cons (.var 6) (.cons (.tup .nil) (.cons (.tup (.cons (.var 3) (.cons (.var 4) .nil))) .nil)))) .nil) (.cons (.ite (.op .eq (.var 9) (.cst (.str "fall"))) (.cons (.par [3, 4, 6] (.cons (.ix (.var 5) (.cst (.int 0))) (.cons (.ix (.var 5) (.cst (.int 1))) (.cons (.tup .nil) .nil)))) .nil) .nil) .nil)) .nil)) (.cons (.expr (.meth (.var 8) none (some .append) (.cons (.tup (.cons (.var 10) (.cons (.var 3) (.cons (.var 5) .nil)))) .nil))) .nil)))) (.cons (.ret (.var 8)) .nil)))
def bScript : Ss := (.cons (.asg (.tg (.nm 1)) (.bi .tuple (.cons (.lc (.op .sub (.call 2 (.cons (.var 0) (.cons (.cst (.int 9)) .nil))) (.cst (.int 4))) (.nm 2) (.rng (.cst (.int 0)) (.call 2 (.cons (.var 0) (.cons (.cst (.int 7)) .nil)))) (.cst (.bl true)) [2]) .nil))) (.cons (.ret (.tup (.cons (.var 1) (.cons (.bi .tuple (.cons (.lc (.call 3 (.cons (.var 0) (.cons (.lst (.cons (.cst (.str "step")) (.cons (.cst (.str "step")) (.cons (.cst (.str "step")) (.cons (.cst (.str "keep")) (.cons (.cst (.str "fall")) .nil)))))) .nil))) (.nm 2) (.rng (.cst (.int 0)) (.call 2 (.cons (.var 0) (.cons (.cst (.int 13)) .nil)))) (.cst (.bl true)) [2]) .nil)) .nil)))) .nil))
def bFlat : Ss := (.cons (.asg (.tg (.nm 1)) (.tup .nil)) (.cons (.for (.tp [(.nm 2), (.nm 3), (.nm 4)]) (.ex (.var 0)) (.cons (.asg (.tg (.nm 1)) (.op .add (.var 1) (.var 2))) .nil)) (.cons (.ret (.var 1)) .nil)))
def bLaw41 : Ss := (.cons (.asg (.tg (.nm 1)) (.dic false (.cons (.cst (.str "draws")) (.cons (.call 1 (.cons (.var 0) (.cons (.cst (.int 500)) .nil))) (.cons (.cst (.str "at")) (.cons (.cst (.int 0)) .nil)))))) (.cons (.for (.nm 2) (.rng (.cst (.int 0)) (.cst (.int 8))) (.cons (.asg (.tg (.tp [(.nm 3), (.nm 4)])) (.call 6 (.cons (.var 1) .nil))) (.cons (.for (.nm 5) (.ex (.tup (.cons (.cst (.str "again")) (.cons (.cst (.str "seldom")) (.cons (.cst (.str "once")) .nil))))) (.cons (.asg (.tg (.nm 6)) (.call 5 (.cons (.var 3) (.cons (.var 4) (.cons (.var 5) .nil))))) (.cons (.ite (.not (.call 4 (.cons (.call 0 (.cons (.var 3) (.cons (.var 4) (.cons (.var 5) .nil)))) (.cons (.call 7 (.cons (.var 6) .nil)) .nil)))) (.cons (.ret (.cst (.bl false))) .nil) .nil) (.cons (.asg (.tg (.nm 7)) (.mk 0 (.cons (.var 3) (.cons (.var 5) .nil)))) (.cons (.for (.nm 8) (.rng (.cst (.int 0)) (.bi .len (.cons (.var 4) .nil))) (.cons (.ite (.or (.not (.call 4 (.cons (.meth (.var 7) (some 7) none (.cons (.ix (.var 4) (.var 8)) .nil)) (.cons (.ix (.ix (.var 6) (.var 8)) (.cst (.int 0))) .nil)))) (.or (.not (.call 4 (.cons (.meth (.var 7) (some 8) none .nil) (.cons (.ix (.ix (.var 6) (.var 8)) (.cst (.int 1))) .nil)))) (.not (.call 4 (.cons (.meth (.var 7) (some 9) none .nil) (.cons (.ix (.ix (.var 6) (.var 8)) (.cst (.int 2))) .nil)))))) (.cons (.ret (.cst (.bl false))) .nil) .nil) .nil)) .nil))))) .nil))) (.cons (.ret (.call 4 (.cons (.call 0 (.cons (.tup (.cons (.cst (.int 5)) (.cons (.cst (.int 6)) .nil))) (.cons (.tup (.cons (.cst (.str "step")) (.cons (.cst (.str "fall")) (.cons (.cst (.str "step")) (.cons (.cst (.str "step")) .nil))))) (.cons (.cst (.str "once")) .nil)))) (.cons (.tup (.cons (.tup (.cons (.cst (.int 0)) (.cons (.cst (.int 5)) .nil))) (.cons (.tup (.cons (.cst (.int 1)) (.cons (.cst (.int 11)) .nil))) .nil))) .nil)))) .nil)))
def bInit : Ss := (.cons (.asg (.fld (.var 0) 0) (.var 1)) (.cons (.asg (.fld (.var 0) 1) (.var 2)) (.cons (.asg (.fld (.var 0) 2) (.tup (.cons (.cst (.int 0)) (.cons (.cst (.int 0)) .nil)))) (.cons (.asg (.fld (.var 0) 3) (.tup (.cons (.cst (.int 0)) (.cons (.cst (.int 0)) .nil)))) (.cons (.asg (.fld (.var 0) 4) (.lst .nil)) (.cons (.asg (.fld (.var 0) 5) (.cst (.int 0))) .nil))))))
def bStep : Ss := (.cons (.asg (.tg (.tp [(.nm 1), (.nm 2)])) (.fld (.var 0) 2)) (.cons (.ite (.op .eq (.var 1) (.bi .len (.cons (.fld (.var 0) 0) .nil))) (.cons (.ret (.tup .nil)) .nil) .nil) (.cons (.aug 2 .add (.ix (.fld (.var 0) 0) (.var 1))) (.cons (.asg (.fld (.var 0) 2) (.tup (.cons (.op .add (.var 1) (.cst (.int 1))) (.cons (.var 2) .nil)))) (.cons (.ite (.op .eq (.fld (.var 0) 1) (.cst (.str "seldom"))) (.cons (.expr (.meth (.fld (.var 0) 4) none (some .append) (.cons (.tup (.cons (.var 1) (.cons (.var 2) .nil))) .nil))) (.cons (.ret (.tup .nil)) .nil)) .nil) (.cons (.ite (.op .eq (.fld (.var 0) 1) (.cst (.str "once"))) (.cons (.ite (.op .ne (.var 1) (.fld (.var 0) 5)) (.cons (.ret (.tup .nil)) .nil) .nil) (.cons (.augf (.var 0) 5 .add (.cst (.int 1))) .nil)) .nil) (.cons (.ret (.tup (.cons (.tup (.cons (.var 1) (.cons (.var 2) .nil))) .nil))) .nil)))))))
def bDo : Ss := (.cons (.ite (.op .eq (.var 1) (.cst (.str "step"))) (.cons (.ret (.meth (.var 0) (some 6) none .nil)) .nil) .nil) (.cons (.ite (.op .eq (.var 1) (.cst (.str "keep"))) (.cons (.asg (.tg (.nm 2)) (.bi .tuple (.cons (.fld (.var 0) 4) .nil))) (.cons (.asg (.fld (.var 0) 4) (.lst .nil)) (.cons (.asg (.fld (.var 0) 3) (.fld (.var 0) 2)) (.cons (.ret (.var 2)) .nil)))) .nil) (.cons (.asg (.fld (.var 0) 2) (.fld (.var 0) 3)) (.cons (.asg (.fld (.var 0) 4) (.lst .nil)) (.cons (.ret (.tup .nil)) .nil)))))
def bPlace : Ss := (.cons (.ret (.ix (.fld (.var 0) 2) (.cst (.int 0)))) .nil)
def bKeptW : Ss := (.cons (.ret (.fld (.var 0) 3)) .nil)
inductive Way where
  | again | seldom | once
  deriving DecidableEq
inductive Word where
  | step | keep | fall
  deriving DecidableEq
def Way.str : Way → Str
  | .again => "again"
  | .seldom => "seldom"
  | .once => "once"
def Word.str : Word → Str
  | .step => "step"
  | .keep => "keep"
  | .fall => "fall"
structure Ws where
  pl : Nat
  st : Int
  sp : Nat
  ss : Int
  wt : List (Nat × Int)
  tk : Nat
/-- one word -/
def wStep (rows : List Int) (way : Way) (s : Ws) : Word → List (Nat × Int) × Ws
  | .step => match rows[s.pl]? with
    | none => ([], s)
    | some r => match way with
      | .again => ([(s.pl, s.st + r)], { s with pl := s.pl + 1, st := s.st + r })
      | .seldom => ([], { s with pl := s.pl + 1, st := s.st + r, wt := s.wt ++ [(s.pl, s.st + r)] })
      | .once => if s.pl = s.tk then ([(s.pl, s.st + r)], { s with pl := s.pl + 1, st := s.st + r, tk := s.tk + 1 }) else ([], { s with pl := s.pl + 1, st := s.st + r })
  | .keep => (s.wt, { s with wt := [], sp := s.pl, ss := s.st })
  | .fall => ([], { s with pl := s.sp, st := s.ss, wt := [] })
def prD (p : Nat × Int) : D := .tup [.int (p.1 : Int), .int p.2]
def prsD (l : List (Nat × Int)) : List D := l.map prD
def rwsD (rows : List Int) : D := .tup (rows.map .int)
def wkF (rows : List Int) (way : Way) (s : Ws) (q : Nat) : List (Nat × D) := [(0, rwsD rows), (1, .str way.str), (2, prD (s.pl, s.st)), (3, prD (s.sp, s.ss)), (4, .ref q), (5, .int (s.tk : Int))]
def wkO (rows : List Int) (way : Way) (s : Ws) (q : Nat) : MO := .ins 0 (wkF rows way s q)
/-- a worker stands at n -/
def Wkr (rows : List Int) (way : Way) (n : Nat) (s : Ws) (M : Mem) : Prop := ∃ q : Nat, n < q ∧ M[n]? = some (wkO rows way s q) ∧ M[q]? = some (.lst (prsD s.wt)) ∧ s.pl ≤ rows.length ∧ s.sp ≤ rows.length ∧ s.wt.length ≤ s.pl + 1000 ∧ s.wt.length < 1000000
structure C41 [Tab] : Prop where
  fl : ∀ f, f < 6 → ((0 : Nat), f) ∈ Tab.fl
  nm : 10 ≤ Tab.nm.length
  m6 : Tab.mt.lookup ((0 : Nat), (6 : Nat)) = some 10
  m7 : Tab.mt.lookup ((0 : Nat), (7 : Nat)) = some 11
  m8 : Tab.mt.lookup ((0 : Nat), (8 : Nat)) = some 12
  m9 : Tab.mt.lookup ((0 : Nat), (9 : Nat)) = some 13
  ini : Tab.ini.lookup 0 = some 9
section
variable [Tab] {P : List FD} {i k n q : Nat} {cf : Cf} {v : Env} {M : Mem} {rows : List Int} {way : Way} {s : Ws}
/-! strings -/
theorem op2_eq_str {x y : Str} (hx : PyData.canLay0 (.str x) = true) (hy : PyData.canLay0 (.str y) = true) : op2 .eq (.v (.str x)) (.v (.str y)) M = some (.v (.bl (decide (x = y))), M) := by
  have e : eqA M (.v (.str x)) (.v (.str y)) = some (x == y) := by
    unfold eqA
    have p : ∀ x : Str, pyOf M (.v (.str x)) = some (.str x) := fun x => rfl
    rw [p, p]
    dsimp only
    have sh : ∀ {x : Str}, PyData.canLay0 (.str x) = true → SeqAt.shaped (.str x) = true := fun h => by
      unfold SeqAt.shaped
      rw [h]
      simp [PyData.depth]
    rw [sh hx, sh hy]
    simp [PyData.eqv]
  unfold op2
  dsimp only
  rw [e]
  rfl
theorem way_lay (w : Way) : PyData.canLay0 (.str w.str) = true := by cases w <;> (rw [PyData.canLay0]; decide +kernel)
theorem word_lay (w : Word) : PyData.canLay0 (.str w.str) = true := by cases w <;> (rw [PyData.canLay0]; decide +kernel)
theorem eq_way (w u : Way) : op2 .eq (.v (.str w.str)) (.v (.str u.str)) M = some (.v (.bl (decide (w = u))), M) := by
  rw [op2_eq_str (way_lay w) (way_lay u)]
  have : decide (w.str = u.str) = decide (w = u) := by cases w <;> cases u <;> rfl
  rw [this]
theorem eq_word (w u : Word) : op2 .eq (.v (.str w.str)) (.v (.str u.str)) M = some (.v (.bl (decide (w = u))), M) := by
  rw [op2_eq_str (word_lay w) (word_lay u)]
  have : decide (w.str = u.str) = decide (w = u) := by cases w <;> cases u <;> rfl
  rw [this]
theorem c_seldom : E.cst (.str "seldom") = E.cst (.str Way.seldom.str) := rfl
theorem c_once : E.cst (.str "once") = E.cst (.str Way.once.str) := rfl
theorem c_again : E.cst (.str "again") = E.cst (.str Way.again.str) := rfl
theorem c_step : E.cst (.str "step") = E.cst (.str Word.step.str) := rfl
theorem c_keep : E.cst (.str "keep") = E.cst (.str Word.keep.str) := rfl
theorem c_fall : E.cst (.str "fall") = E.cst (.str Word.fall.str) := rfl
/-! fields -/
def kSetF (f : Nat) (d : D) (v : Env) : D → Mem → Option (Env × Mem) := fun a M => (setF M a f d).map fun M => (v, M)
@[simp] theorem asgS_fld (o : E) (f : Nat) (d : D) : asgS cf (.fld o f) d v M = bnd (evD cf o v M) (kSetF f d v) := (rfl)
@[simp] theorem kSetF_ap (f : Nat) (d a : D) : kSetF f d v a M = (setF M a f d).map fun M => (v, M) := (rfl)
theorem getF_ok {fs : List (Nat × D)} {f : Nat} (C : C41) (hf : f < 6) (h : M[n]? = some (.ins 0 fs)) : getF M (.ref n) f = fs.lookup f := by
  unfold getF
  simp only [h]
  rw [if_pos (C.fl f hf)]
theorem setF_ok' {fs : List (Nat × D)} {f : Nat} {d : D} (C : C41) (hf : f < 6) (h : M[n]? = some (.ins 0 fs)) (hl : fs.length < 1000) : setF M (.ref n) f d = some (M.set n (.ins 0 (putFs f d fs))) := by
  unfold setF
  simp only [h]
  rw [if_pos ⟨C.fl f hf, hl, by have := C.nm; omega⟩]
@[simp] theorem opi_add (i j : Int) : opi .add (.int i) (.v (.int j)) M = some (.int (i + j), M) := (rfl)
theorem augf_ok {a e : E} {f : Nat} {x y : Int} {M' : Mem} (ha : ev cf a v M = some (.v (.ref n), M)) (hg : getF M (.ref n) f = some (.int x)) (he : ev cf e v M = some (.v (.int y), M)) (hs : setF M (.ref n) f (.int (x + y)) = some M') : ex cf (.augf a f .add e) v M = some ((.nx, v), M') := by
  rw [ex, evD_eq, ha, bnd_some, toD_v, bnd_some]
  simp only [hg]
  rw [he, bnd_some, opi_add, bnd_some, if_pos rfl, hs]
  rfl
theorem at_rows {z : Nat} : L2.atI (rows.map D.int) (z : Int) = (rows[z]?).map D.int := atI_map rows z
theorem fin_same {M' : Mem} {d : D} (h : M'.length = M.length) : fin M d M' = (d, M') := by
  unfold fin
  rw [← h, List.take_length]
  split <;> rfl
/-- a step -/
theorem step_ok (C : C41) (h : P[10]? = some ⟨1, 3, bStep⟩) (w : Wkr rows way n s M) (hr : rows.length ≤ 1000) :
    ∃ M', callAt P (k + 1) 10 [.ref n] M = some (.tup (prsD (wStep rows way s .step).1), M') ∧ Wkr rows way n (wStep rows way s .step).2 M' ∧ (∀ j, j < n → M'[j]? = M[j]?) ∧ M'.length = M.length := by
  obtain ⟨q, hq, h1, h2, b1, b2, b3, b4⟩ := w
  have hnl := (List.getElem?_eq_some_iff.mp h1).1
  have hql := (List.getElem?_eq_some_iff.mp h2).1
  have hline : line = 16000000 := rfl
  rw [call_eq h rfl]
  have g : ∀ f, f < 6 → getF M (.ref n) f = (wkF rows way s q).lookup f := fun f hf => getF_ok C hf h1
  have g0 : getF M (.ref n) 0 = some (rwsD rows) := by rw [g 0 (by decide)]; rfl
  have g2 : getF M (.ref n) 2 = some (prD (s.pl, s.st)) := by rw [g 2 (by decide)]; rfl
  by_cases hp : s.pl = rows.length
  · -- no row is left
    have e : rows[s.pl]? = none := List.getElem?_eq_none (by omega)
    refine ⟨M, ?_, ?_, fun _ _ => rfl, rfl⟩
    · simp [bStep, g0, g2, prD, rwsD, asgT_tp2, hp, wStep, prsD, fin_self]
    · simp only [wStep, e]
      exact ⟨q, hq, h1, h2, b1, b2, b3, b4⟩
  · have hlt : s.pl < rows.length := by omega
    have e : rows[s.pl]? = some rows[s.pl] := List.getElem?_eq_getElem hlt
    generalize rows[s.pl] = r at e
    have hpi : ¬ ((s.pl : Int) = (rows.length : Int)) := by omega
    -- the place moves on
    have hs2 : setF M (.ref n) 2 (prD (s.pl + 1, s.st + r)) = some (M.set n (wkO rows way { s with pl := s.pl + 1, st := s.st + r } q)) := by
      rw [setF_ok' C (by decide) h1 (by simp [wkF])]
      rfl
    have hs2' : setF M (.ref n) 2 (.tup [.int ((s.pl : Int) + 1), .int (s.st + r)]) = some (M.set n (wkO rows way { s with pl := s.pl + 1, st := s.st + r } q)) := by
      rw [← hs2]
      rfl
    have k1 : (M.set n (wkO rows way { s with pl := s.pl + 1, st := s.st + r } q))[n]? = some (wkO rows way { s with pl := s.pl + 1, st := s.st + r } q) := List.getElem?_set_self hnl
    have k2 : (M.set n (wkO rows way { s with pl := s.pl + 1, st := s.st + r } q))[q]? = some (.lst (prsD s.wt)) := by rw [List.getElem?_set_ne (by omega)]; exact h2
    have g1' : getF (M.set n (wkO rows way { s with pl := s.pl + 1, st := s.st + r } q)) (.ref n) 1 = some (.str way.str) := by rw [getF_ok C (by decide) k1]; rfl
    have g4' : getF (M.set n (wkO rows way { s with pl := s.pl + 1, st := s.st + r } q)) (.ref n) 4 = some (.ref q) := by rw [getF_ok C (by decide) k1]; rfl
    have g5' : getF (M.set n (wkO rows way { s with pl := s.pl + 1, st := s.st + r } q)) (.ref n) 5 = some (.int (s.tk : Int)) := by rw [getF_ok C (by decide) k1]; rfl
    have fr : ∀ j, j < n → (M.set n (wkO rows way { s with pl := s.pl + 1, st := s.st + r } q))[j]? = M[j]? := fun j hj => List.getElem?_set_ne (by omega)
    have hlen : (M.set n (wkO rows way { s with pl := s.pl + 1, st := s.st + r } q)).length = M.length := by simp
    generalize hM1 : M.set n (wkO rows way { s with pl := s.pl + 1, st := s.st + r } q) = M1 at *
    have hnl1 := (List.getElem?_eq_some_iff.mp k1).1
    have hql1 := (List.getElem?_eq_some_iff.mp k2).1
    cases way with
    | again =>
      refine ⟨M1, ?_, ?_, fr, hlen⟩
      · simp [bStep, g0, g2, prD, rwsD, asgT_tp2, hpi, at_rows, e, hs2', c_seldom, c_once, g1', eq_way, wStep, prsD, fin_same hlen, line]
      · simp only [wStep, e]
        exact ⟨q, hq, k1, k2, by simp; omega, b2, by simp; omega, b4⟩
    | seldom =>
      have ha := app_ok (cf := cfA P k) (v := [some (.ref n), some (.int s.pl), some (.int (s.st + r))]) (M := M1) (n := q) (m := none) (e := .tup (.cons (.var 1) (.cons (.var 2) .nil))) (d := prD (s.pl, s.st + r)) (M2 := M1) k2 (by simp [line, prD]) k2 (by simp [prsD]; omega)
      refine ⟨M1.set q (.lst (prsD s.wt ++ [prD (s.pl, s.st + r)])), ?_, ?_, fun j hj => ?_, by simp [hlen]⟩
      · simp [bStep, g0, g2, prD, rwsD, asgT_tp2, hpi, at_rows, e, hs2', c_seldom, c_once, g1', g4', eq_way, wStep, prsD, line] at ha ⊢
        rw [ha]
        simp
        exact fin_same (by simp [hlen])
      · simp only [wStep, e]
        refine ⟨q, hq, by rw [List.getElem?_set_ne (by omega)]; exact k1, by rw [List.getElem?_set_self hql1]; simp [prsD], by simp; omega, b2, by simp; omega, by simp; omega⟩
      · rw [List.getElem?_set_ne (by omega)]
        exact fr j hj
    | once =>
      by_cases ht : s.pl = s.tk
      · have htt : (s.pl = s.tk) = True := eq_true ht
        have hti : ((s.pl : Int) = (s.tk : Int)) = True := eq_true (by omega)
        have hs5 : setF M1 (.ref n) 5 (.int ((s.tk : Int) + 1)) = some (M1.set n (wkO rows .once { s with pl := s.pl + 1, st := s.st + r, tk := s.tk + 1 } q)) := by
          rw [setF_ok' C (by decide) k1 (by simp [wkF])]
          rfl
        have hau := augf_ok (cf := cfA P k) (v := [some (.ref n), some (.int s.pl), some (.int (s.st + r))]) (a := .var 0) (e := .cst (.int 1)) (y := 1) (by simp) g5' (by simp) hs5
        refine ⟨M1.set n (wkO rows .once { s with pl := s.pl + 1, st := s.st + r, tk := s.tk + 1 } q), ?_, ?_, fun j hj => ?_, by simp [hlen]⟩
        · simp [bStep, g0, g2, prD, rwsD, asgT_tp2, hpi, at_rows, e, hs2', c_seldom, c_once, g1', g5', eq_way, wStep, prsD, htt, hti, line] at hau ⊢
          rw [hau]
          simp [line]
          exact fin_same (by simp [hlen])
        · simp only [wStep, e, htt, if_true]
          exact ⟨q, hq, by rw [List.getElem?_set_self hnl1], by rw [List.getElem?_set_ne (by omega)]; exact k2, by simp; omega, b2, by simp; omega, b4⟩
        · rw [List.getElem?_set_ne (by omega)]
          exact fr j hj
      · have hti : ¬ ((s.pl : Int) = (s.tk : Int)) := by omega
        refine ⟨M1, ?_, ?_, fr, hlen⟩
        · simp [bStep, g0, g2, prD, rwsD, asgT_tp2, hpi, at_rows, e, hs2', c_seldom, c_once, g1', g5', eq_way, wStep, prsD, ht, hti, fin_same hlen, line]
        · simp only [wStep, e, ht, if_false]
          exact ⟨q, hq, k1, k2, by simp; omega, b2, by simp; omega, b4⟩
end
end Ev
namespace Ev
open PySem
section
variable [Tab] {P : List FD} {i k n q : Nat} {cf : Cf} {v : Env} {M : Mem} {rows : List Int} {way : Way} {s : Ws}
theorem meth_own' {C m f : Nat} {b : Option BM} {es : Es} {fs : List (Nat × D)} (h : M[n]? = some (.ins C fs)) (hn : fs.lookup m = none) (hm : Tab.mt.lookup (C, m) = some f) : kMth cf (some m) b es v (.v (.ref n)) M = bnd (evs cf es v M) (kMth1 cf n f) := by
  unfold kMth
  simp only [h, hn, hm]
  rfl
@[simp] theorem kMth1_ap (f : Nat) (ds : List D) : kMth1 cf n f ds M = bnd (cf.call f (.ref n :: ds) M) kV := (rfl)
theorem fin_keep {M' : Mem} {d : D} {j : Nat} {o : MO} (hj : j < M.length) (h : M'[j]? = some o) (hn : M[j]? ≠ some o) (hl : o.lo M.length = false) : fin M d M' = (d, M') := by
  unfold fin
  rw [if_neg]
  rw [Bool.and_eq_true, List.all_eq_true]
  intro w
  have := w.2 j (List.mem_range.mpr hj)
  rw [h] at this
  simp [hl, Ne.symm hn] at this
theorem wk_lo {m : Nat} (h : m ≤ q) : (wkO rows way s q).lo m = false := by
  unfold wkO wkF MO.lo
  simp [D.lo, h]
/-- a word is done -/
theorem do_ok (C : C41) (h10 : P[10]? = some ⟨1, 3, bStep⟩) (h : P[11]? = some ⟨2, 3, bDo⟩) (w : Wkr rows way n s M) (hr : rows.length ≤ 1000) (wd : Word) :
    ∃ M', callAt P (k + 2) 11 [.ref n, .str wd.str] M = some (.tup (prsD (wStep rows way s wd).1), M') ∧ Wkr rows way n (wStep rows way s wd).2 M' ∧ (∀ j, j < n → M'[j]? = M[j]?) ∧ M.length ≤ M'.length := by
  have hline : line = 16000000 := rfl
  rw [call_eq h rfl]
  obtain ⟨q, hq, h1, h2, b1, b2, b3, b4⟩ := id w
  have hnl := (List.getElem?_eq_some_iff.mp h1).1
  have hql := (List.getElem?_eq_some_iff.mp h2).1
  have hm : kMth (cfA P (k + 1)) (some 6) none .nil [some (.ref n), some (.str wd.str), none] (.v (.ref n)) M = bnd (evs (cfA P (k + 1)) .nil [some (.ref n), some (.str wd.str), none] M) (kMth1 (cfA P (k + 1)) n 10) := meth_own' h1 rfl C.m6
  have k1 : ∀ s' q', ((M ++ [MO.lst []]).set n (wkO rows way s' q'))[n]? = some (wkO rows way s' q') := fun s' q' => List.getElem?_set_self (by simp; omega)
  have ne1 : ∀ s', M[n]? ≠ some (wkO rows way s' M.length) := fun s' e => by
    rw [h1] at e
    have e := MO.ins.inj (Option.some.inj e)
    simp [wkF] at e
    omega
  cases wd with
  | step =>
    obtain ⟨M', e, w', fr, hl⟩ := step_ok (k := k) C h10 w hr
    refine ⟨M', ?_, w', fr, by omega⟩
    simp [bDo, c_step, eq_word, hm, e]
    exact fin_same hl
  | keep =>
    have g4 : getF M (.ref n) 4 = some (.ref q) := by rw [getF_ok C (by decide) h1]; rfl
    have hA : (M ++ [MO.lst []])[n]? = some (wkO rows way s q) := by rw [List.getElem?_append_left hnl]; exact h1
    have s4 : setF (M ++ [MO.lst []]) (.ref n) 4 (.ref M.length) = some ((M ++ [MO.lst []]).set n (wkO rows way s M.length)) := by
      rw [setF_ok' C (by decide) hA (by simp [wkF])]
      rfl
    have g2 : getF ((M ++ [MO.lst []]).set n (wkO rows way s M.length)) (.ref n) 2 = some (prD (s.pl, s.st)) := by rw [getF_ok C (by decide) (k1 _ _)]; rfl
    have s3 : setF ((M ++ [MO.lst []]).set n (wkO rows way s M.length)) (.ref n) 3 (prD (s.pl, s.st)) = some ((M ++ [MO.lst []]).set n (wkO rows way { s with wt := [], sp := s.pl, ss := s.st } M.length)) := by
      rw [setF_ok' C (by decide) (k1 _ _) (by simp [wkF]), List.set_set]
      rfl
    have hf : ∀ d, fin M d ((M ++ [MO.lst []]).set n (wkO rows way { s with wt := [], sp := s.pl, ss := s.st } M.length)) = (d, (M ++ [MO.lst []]).set n (wkO rows way { s with wt := [], sp := s.pl, ss := s.st } M.length)) := fun d => fin_keep hnl (k1 _ _) (ne1 _) (wk_lo (Nat.le_refl _))
    refine ⟨(M ++ [MO.lst []]).set n (wkO rows way { s with wt := [], sp := s.pl, ss := s.st } M.length), ?_, ⟨M.length, hnl, k1 _ _, ?_, b1, b1, by simp [wStep], by simp [wStep]⟩, fun j hj => ?_, by simp⟩
    · simp [bDo, c_step, c_keep, eq_word, g4, itemsOf_ref', h2, s4, g2, s3, hf, wStep]
    · rw [List.getElem?_set_ne (by omega)]
      simp [wStep, prsD]
    · rw [List.getElem?_set_ne (by omega), List.getElem?_append_left (by omega)]
  | fall =>
    have g3 : getF M (.ref n) 3 = some (prD (s.sp, s.ss)) := by rw [getF_ok C (by decide) h1]; rfl
    have s2 : setF M (.ref n) 2 (prD (s.sp, s.ss)) = some (M.set n (wkO rows way { s with pl := s.sp, st := s.ss } q)) := by
      rw [setF_ok' C (by decide) h1 (by simp [wkF])]
      rfl
    have hA : (M.set n (wkO rows way { s with pl := s.sp, st := s.ss } q) ++ [MO.lst []])[n]? = some (wkO rows way { s with pl := s.sp, st := s.ss } q) := by
      rw [List.getElem?_append_left (by simpa using hnl)]
      exact List.getElem?_set_self hnl
    have eM : (M.set n (wkO rows way { s with pl := s.sp, st := s.ss } q) ++ [MO.lst []]).set n (wkO rows way { s with pl := s.sp, st := s.ss, wt := [] } M.length) = (M ++ [MO.lst []]).set n (wkO rows way { s with pl := s.sp, st := s.ss, wt := [] } M.length) := by
      rw [List.set_append_left _ _ (by simpa using hnl), List.set_set, List.set_append_left _ _ hnl]
    have s4 : setF (M.set n (wkO rows way { s with pl := s.sp, st := s.ss } q) ++ [MO.lst []]) (.ref n) 4 (.ref M.length) = some ((M ++ [MO.lst []]).set n (wkO rows way { s with pl := s.sp, st := s.ss, wt := [] } M.length)) := by
      rw [setF_ok' C (by decide) hA (by simp [wkF]), ← eM]
      rfl
    have hf : ∀ d, fin M d ((M ++ [MO.lst []]).set n (wkO rows way { s with pl := s.sp, st := s.ss, wt := [] } M.length)) = (d, (M ++ [MO.lst []]).set n (wkO rows way { s with pl := s.sp, st := s.ss, wt := [] } M.length)) := fun d => fin_keep hnl (k1 _ _) (ne1 _) (wk_lo (Nat.le_refl _))
    refine ⟨(M ++ [MO.lst []]).set n (wkO rows way { s with pl := s.sp, st := s.ss, wt := [] } M.length), ?_, ⟨M.length, hnl, k1 _ _, ?_, b2, b2, by simp [wStep], by simp [wStep]⟩, fun j hj => ?_, by simp⟩
    · simp [bDo, c_step, c_keep, eq_word, g3, s2, s4, hf, wStep, prsD]
    · rw [List.getElem?_set_ne (by omega)]
      simp [wStep, prsD]
    · rw [List.getElem?_set_ne (by omega), List.getElem?_append_left (by omega)]
theorem place_ok (C : C41) (h : P[12]? = some ⟨1, 1, bPlace⟩) (w : Wkr rows way n s M) : callAt P (k + 1) 12 [.ref n] M = some (.int s.pl, M) := by
  obtain ⟨q, hq, h1, h2, b1, b2, b3, b4⟩ := w
  have g2 : getF M (.ref n) 2 = some (prD (s.pl, s.st)) := by rw [getF_ok C (by decide) h1]; rfl
  rw [call_eq h rfl]
  simp [bPlace, g2, prD, at_zero, fin_self]
theorem keptw_ok (C : C41) (h : P[13]? = some ⟨1, 1, bKeptW⟩) (w : Wkr rows way n s M) : callAt P (k + 1) 13 [.ref n] M = some (prD (s.sp, s.ss), M) := by
  obtain ⟨q, hq, h1, h2, b1, b2, b3, b4⟩ := w
  have g3 : getF M (.ref n) 3 = some (prD (s.sp, s.ss)) := by rw [getF_ok C (by decide) h1]; rfl
  rw [call_eq h rfl]
  simp [bKeptW, g3, fin_self]
def ws0 : Ws := ⟨0, 0, 0, 0, [], 0⟩
theorem init_ok (C : C41) (h : P[9]? = some ⟨3, 3, bInit⟩) : callAt P (k + 1) 9 [.ref M.length, rwsD rows, .str way.str] (M ++ [MO.ins 0 []]) = some (.non, M ++ [wkO rows way ws0 (M.length + 1)] ++ [MO.lst []]) := by
  rw [call_eq h rfl]
  have st : ∀ (fs : List (Nat × D)) (f : Nat) (d : D), f < 6 → fs.length < 1000 → setF (M ++ [MO.ins 0 fs]) (.ref M.length) f d = some (M ++ [MO.ins 0 (putFs f d fs)]) := fun fs f d hf hl => by
    rw [setF_ok' C hf (at_last _) hl, set_last]
  have hB : ∀ x y : MO, (M ++ [x] ++ [y])[M.length]? = some x := fun x y => by simp
  have hS : ∀ x y z : MO, (M ++ [x] ++ [y]).set M.length z = M ++ [z] ++ [y] := fun x y z => by
    rw [List.set_append_left _ _ (by simp), set_last]
  have st2 : ∀ (fs : List (Nat × D)) (f : Nat) (d : D) (y : MO), f < 6 → fs.length < 1000 → setF (M ++ [MO.ins 0 fs] ++ [y]) (.ref M.length) f d = some (M ++ [MO.ins 0 (putFs f d fs)] ++ [y]) := fun fs f d y hf hl => by
    rw [setF_ok' C hf (hB _ _) hl, hS]
  have hf : fin (M ++ [MO.ins 0 []]) .non (M ++ [wkO rows way ws0 (M.length + 1)] ++ [MO.lst []]) = (.non, M ++ [wkO rows way ws0 (M.length + 1)] ++ [MO.lst []]) := by
    refine fin_keep (j := M.length) (by simp) (hB _ _) (by rw [at_last]; simp [wkO, wkF]) (wk_lo (by simp))
  have s0 := st [] 0 (rwsD rows) (by decide) (by decide)
  have s1 := st [(0, rwsD rows)] 1 (.str way.str) (by decide) (by simp)
  have s2 := st [(0, rwsD rows), (1, .str way.str)] 2 (.tup [.int 0, .int 0]) (by decide) (by simp)
  have s3 := st [(0, rwsD rows), (1, .str way.str), (2, .tup [.int 0, .int 0])] 3 (.tup [.int 0, .int 0]) (by decide) (by simp)
  have s4 := st2 [(0, rwsD rows), (1, .str way.str), (2, .tup [.int 0, .int 0]), (3, .tup [.int 0, .int 0])] 4 (.ref (M.length + 1)) (MO.lst []) (by decide) (by simp)
  have s5 := st2 [(0, rwsD rows), (1, .str way.str), (2, .tup [.int 0, .int 0]), (3, .tup [.int 0, .int 0]), (4, .ref (M.length + 1))] 5 (.int 0) (MO.lst []) (by decide) (by simp)
  simp [putFs] at s0 s1 s2 s3 s4 s5
  simp [wkO, wkF, prD, ws0] at hf
  simp [bInit, s0, s1, s2, s3, s4, s5, hf, line, wkO, wkF, prD, ws0]
theorem mk_ok {C : Nat} {es : Es} {ds : List D} {M1 M2 : Mem} (he : evs cf es v M = some (ds, M1)) (hi : cf.init C (.ref M1.length :: ds) (M1 ++ [MO.ins C []]) = some (.non, M2)) : ev cf (.mk C es) v M = some (.v (.ref M1.length), M2) := by
  rw [ev, he, bnd_some, hi, bnd_some, if_pos rfl]
theorem wk_start (C : C41) (h : P[9]? = some ⟨3, 3, bInit⟩) {es : Es} (he : evs (cfA P (k + 2)) es v M = some ([rwsD rows, .str way.str], M)) : ∃ M', ev (cfA P (k + 2)) (.mk 0 es) v M = some (.v (.ref M.length), M') ∧ Wkr rows way M.length ws0 M' ∧ (∀ j, j < M.length → M'[j]? = M[j]?) ∧ M.length ≤ M'.length := by
  refine ⟨M ++ [wkO rows way ws0 (M.length + 1)] ++ [MO.lst []], mk_ok he ?_, ⟨M.length + 1, by omega, by simp, ?_, Nat.zero_le _, Nat.zero_le _, by simp [ws0], by simp [ws0]⟩, fun j hj => ?_, by simp⟩
  · show iniOf (callAt P (k + 2 - 1)) 0 _ _ = _
    unfold iniOf
    rw [C.ini]
    exact init_ok (k := k) C h
  · rw [List.getElem?_append_right (by simp)]
    simp [ws0, prsD]
  · rw [List.getElem?_append_left (by simp; omega), List.getElem?_append_left hj]
end
end Ev
namespace Ev
open PySem
def runW (rows : List Int) (way : Way) : Ws → List Word → List (List (Nat × Int) × Ws)
  | _, [] => []
  | s, w :: ws => wStep rows way s w :: runW rows way (wStep rows way s w).2 ws
def outsW (rows : List Int) (way : Way) (s : Ws) (ws : List Word) : List (Nat × Int) := (runW rows way s ws).flatMap (·.1)
def wdsD (ws : List Word) : List D := ws.map fun w => D.str w.str
def dueD (r : List (Nat × Int) × Ws) : D := .tup [.tup (prsD r.1), .int (r.2.pl : Int), prD (r.2.sp, r.2.ss)]
/-- a state's bounds -/
structure Wi (rows : List Int) (s : Ws) : Prop where
  p : s.pl ≤ rows.length
  q : s.sp ≤ rows.length
  w : s.wt.length ≤ s.pl + 1000
theorem Wi.step {rows : List Int} {s : Ws} (h : Wi rows s) (way : Way) (wd : Word) : Wi rows (wStep rows way s wd).2 := by
  obtain ⟨p, q, w⟩ := h
  cases wd with
  | keep => exact ⟨p, p, by simp [wStep]⟩
  | fall => exact ⟨q, q, by simp [wStep]⟩
  | step =>
    unfold wStep
    cases e : rows[s.pl]? with
    | none => exact ⟨p, q, w⟩
    | some r =>
      have hl := (List.getElem?_eq_some_iff.mp e).1
      cases way with
      | again => exact ⟨by simp; omega, q, by simp; omega⟩
      | seldom => exact ⟨by simp; omega, q, by simp; omega⟩
      | once =>
        dsimp only
        split
        · exact ⟨by simp; omega, q, by simp; omega⟩
        · exact ⟨by simp; omega, q, by simp; omega⟩
theorem Wi.out {rows : List Int} {s : Ws} (h : Wi rows s) (hr : rows.length ≤ 1000) (way : Way) (wd : Word) : (wStep rows way s wd).1.length ≤ 2000 := by
  obtain ⟨p, q, w⟩ := h
  cases wd with
  | keep => simp [wStep]; omega
  | fall => simp [wStep]
  | step =>
    unfold wStep
    cases e : rows[s.pl]? with
    | none => simp
    | some r =>
      cases way with
      | again => simp
      | seldom => simp
      | once =>
        dsimp only
        split <;> simp
section
variable [Tab] {P : List FD} {i k n q : Nat} {cf : Cf} {v : Env} {M : Mem} {rows : List Int} {way : Way} {s : Ws}
theorem Wkr.wi (w : Wkr rows way n s M) : Wi rows s := by
  obtain ⟨q, hq, h1, h2, b1, b2, b3, b4⟩ := w
  exact ⟨b1, b2, b3⟩
theorem prsD_app (a b : List (Nat × Int)) : prsD a ++ prsD b = prsD (a ++ b) := by simp [prsD]
theorem prsD_len (a : List (Nat × Int)) : (prsD a).length = a.length := by simp [prsD]
theorem op2_add_tup (x y : List D) : op2 .add (.v (.tup x)) (.v (.tup y)) M = if x.length + y.length ≤ line then some (.v (.tup (x ++ y)), M) else none := (rfl)
theorem forL_nil0 {b : D → Env → Mem → Option ((Fl × Env) × Mem)} : forL b none [] v M = some ((.nx, v), M) := by
  unfold forL
  rw [if_pos (show still M none = true from rfl)]
theorem forL_cons0 {b : D → Env → Mem → Option ((Fl × Env) × Mem)} {d : D} {ds : List D} {v' : Env} {M' : Mem} (h : b d v M = some ((.nx, v'), M')) : forL b none (d :: ds) v M = forL b none ds v' M' := by
  rw [forL, if_pos (show still M none = true from rfl), h, bnd_some]
def bodyT : Ss := (.cons (.asg (.tg (.nm 4)) (.op .add (.var 4) (.meth (.var 3) (some 7) none (.cons (.var 5) .nil)))) .nil)
theorem told_loop (C : C41) (h10 : P[10]? = some ⟨1, 3, bStep⟩) (h11 : P[11]? = some ⟨2, 3, bDo⟩) (hr : rows.length ≤ 1000) {a0 a1 a2 : Option D} : ∀ (ws : List Word) (s : Ws) (M : Mem) (acc : List (Nat × Int)) (o5 : Option D), Wkr rows way n s M → acc.length + 2000 * ws.length ≤ 10000000 →
    ∃ M' o5', forL (forBody (cfA P (k + 2)) (.nm 5) bodyT) none (wdsD ws) [a0, a1, a2, some (.ref n), some (.tup (prsD acc)), o5] M = some ((.nx, [a0, a1, a2, some (.ref n), some (.tup (prsD (acc ++ outsW rows way s ws))), o5']), M') ∧ (∀ j, j < n → M'[j]? = M[j]?) ∧ M.length ≤ M'.length
  | [], s, M, acc, o5, w, hl => ⟨M, o5, by rw [wdsD, List.map_nil, forL_nil0]; simp [outsW, runW], fun _ _ => rfl, Nat.le_refl _⟩
  | wd :: ws, s, M, acc, o5, w, hl => by
    have hline : line = 16000000 := rfl
    obtain ⟨M1, e1, w1, f1, l1⟩ := do_ok (k := k) C h10 h11 w hr wd
    have ho := w.wi.out hr way wd
    obtain ⟨M2, o5', e2, f2, l2⟩ := told_loop C h10 h11 hr ws (wStep rows way s wd).2 M1 (acc ++ (wStep rows way s wd).1) (some (.str wd.str)) w1 (by simp only [List.length_append, List.length_cons] at hl ⊢; omega)
    refine ⟨M2, o5', ?_, fun j hj => (f2 j hj).trans (f1 j hj), Nat.le_trans l1 l2⟩
    have hb : forBody (cfA P (k + 2)) (.nm 5) bodyT (.str wd.str) [a0, a1, a2, some (.ref n), some (.tup (prsD acc)), o5] M = some ((.nx, [a0, a1, a2, some (.ref n), some (.tup (prsD (acc ++ (wStep rows way s wd).1))), some (.str wd.str)]), M1) := by
      obtain ⟨q, hq, h1, h2, b1, b2, b3, b4⟩ := w
      have hm : kMth (cfA P (k + 2)) (some 7) none (.cons (.var 5) .nil) [a0, a1, a2, some (.ref n), some (.tup (prsD acc)), some (.str wd.str)] (.v (.ref n)) M = bnd (evs (cfA P (k + 2)) (.cons (.var 5) .nil) [a0, a1, a2, some (.ref n), some (.tup (prsD acc)), some (.str wd.str)] M) (kMth1 (cfA P (k + 2)) n 11) := meth_own' h1 rfl C.m7
      have hle : (prsD acc).length + (prsD (wStep rows way s wd).1).length ≤ line := by
        rw [prsD_len, prsD_len]
        simp only [List.length_cons] at hl
        omega
      rw [forBody_ap]
      simp [bodyT, hm, e1, op2_add_tup, hle, prsD_app]
    rw [wdsD, List.map_cons]
    rw [forL_cons0 hb]
    have e3 : outsW rows way s (wd :: ws) = (wStep rows way s wd).1 ++ outsW rows way (wStep rows way s wd).2 ws := by simp [outsW, runW]
    rw [e3, ← List.append_assoc]
    exact e2
theorem take_same {M' : Mem} (h : ∀ j, j < M.length → M'[j]? = M[j]?) : M'.take M.length = M := by
  apply List.ext_getElem?
  intro j
  by_cases hj : j < M.length
  · rw [List.getElem?_take_of_lt hj, h j hj]
  · rw [List.getElem?_eq_none (by rw [List.length_take]; omega), List.getElem?_eq_none (by omega)]
theorem fin_old {M' : Mem} {d : D} (hd : d.pure = true) (h : ∀ j, j < M.length → M'[j]? = M[j]?) : fin M d M' = (d, M) := by
  rw [fin_lo (pure_lo _ _ hd) fun j hj => .inl (h j hj), take_same h]
theorem prsD_pure (l : List (Nat × Int)) : (D.tup (prsD l)).pure = true := by
  rw [D.pure, pures_iff]
  intro d hd
  obtain ⟨p, _, rfl⟩ := List.mem_map.mp hd
  rfl
theorem told_ok (C : C41) (h0 : P[0]? = some ⟨3, 6, bTold⟩) (h9 : P[9]? = some ⟨3, 3, bInit⟩) (h10 : P[10]? = some ⟨1, 3, bStep⟩) (h11 : P[11]? = some ⟨2, 3, bDo⟩) (hr : rows.length ≤ 1000) {ws : List Word} (hw : ws.length ≤ 1000) :
    callAt P (k + 3) 0 [rwsD rows, .tup (wdsD ws), .str way.str] M = some (.tup (prsD (outsW rows way ws0 ws)), M) := by
  rw [call_eq h0 rfl]
  obtain ⟨M1, e1, w1, f1, l1⟩ := wk_start (k := k) (M := M) (rows := rows) (way := way) C h9 (es := .cons (.var 0) (.cons (.var 2) .nil)) (v := [some (rwsD rows), some (.tup (wdsD ws)), some (.str way.str), none, none, none]) (by simp)
  obtain ⟨M2, o5, e2, f2, l2⟩ := told_loop (k := k) C h10 h11 hr ws ws0 M1 [] none w1 (by simp; omega) (a0 := some (rwsD rows)) (a1 := some (.tup (wdsD ws))) (a2 := some (.str way.str))
  have hit : evIt (cfA P (k + 2)) (.ex (.var 1)) [some (rwsD rows), some (.tup (wdsD ws)), some (.str way.str), some (.ref M.length), some (.tup []), none] M1 = some ((wdsD ws, none), M1) := evIt_ex (x := .v (.tup (wdsD ws))) (by simp) rfl
  have hf := fin_old (M := M) (M' := M2) (prsD_pure (outsW rows way ws0 ws)) fun j hj => (f2 j hj).trans (f1 j hj)
  have e2 : forL (forBody (cfA P (k + 2)) (.nm 5) (.cons (.asg (.tg (.nm 4)) (.op .add (.var 4) (.meth (.var 3) (some 7) none (.cons (.var 5) .nil)))) .nil)) none (wdsD ws) [some (rwsD rows), some (.tup (wdsD ws)), some (.str way.str), some (.ref M.length), some (.tup []), none] M1 = some ((.nx, [some (rwsD rows), some (.tup (wdsD ws)), some (.str way.str), some (.ref M.length), some (.tup (prsD (outsW rows way ws0 ws))), o5]), M2) := e2
  simp [bTold, e1, hit, e2, hf]
/-! the law's own telling -/
def kPar (is : List Nat) (v : Env) : List D → Mem → Option ((Fl × Env) × Mem) := fun ds M => if is.length = ds.length ∧ is.all (· < v.length) = true ∧ is.length < 4 then some ((.nx, setAll is.reverse ds.reverse v), M) else none
@[simp] theorem ex_par (is : List Nat) (es : Es) : ex cf (.par is es) v M = bnd (evs cf es v M) (kPar is v) := by rw [ex]; rfl
@[simp] theorem kPar_ap (is : List Nat) (ds : List D) : kPar is v ds M = if is.length = ds.length ∧ is.all (· < v.length) = true ∧ is.length < 4 then some ((.nx, setAll is.reverse ds.reverse v), M) else none := (rfl)
def bodyL : Ss := (.cons (.asg (.tg (.nm 10)) (.tup .nil)) (.cons (.ite (.and (.op .eq (.var 9) (.cst (.str "step"))) (.op .lt (.var 3) (.bi .len (.cons (.var 0) .nil)))) (.cons (.aug 4 .add (.ix (.var 0) (.var 3))) (.cons (.ite (.op .eq (.var 2) (.cst (.str "seldom"))) (.cons (.asg (.tg (.nm 6)) (.op .add (.var 6) (.tup (.cons (.tup (.cons (.var 3) (.cons (.var 4) .nil))) .nil)))) .nil) (.cons (.ite (.or (.op .eq (.var 2) (.cst (.str "again"))) (.op .eq (.var 3) (.var 7))) (.cons (.asg (.tg (.nm 10)) (.tup (.cons (.tup (.cons (.var 3) (.cons (.var 4) .nil))) .nil))) (.cons (.asg (.tg (.nm 7)) (.op .add (.var 3) (.cst (.int 1)))) .nil)) .nil) .nil)) (.cons (.aug 3 .add (.cst (.int 1))) .nil))) (.cons (.ite (.op .eq (.var 9) (.cst (.str "keep"))) (.cons (.par [10, 6, 5] (.cons (.var 6) (.cons (.tup .nil) (.cons (.tup (.cons (.var 3) (.cons (.var 4) .nil))) .nil)))) .nil) (.cons (.ite (.op .eq (.var 9) (.cst (.str "fall"))) (.cons (.par [3, 4, 6] (.cons (.ix (.var 5) (.cst (.int 0))) (.cons (.ix (.var 5) (.cst (.int 1))) (.cons (.tup .nil) .nil)))) .nil) .nil) .nil)) .nil)) (.cons (.expr (.meth (.var 8) none (some .append) (.cons (.tup (.cons (.var 10) (.cons (.var 3) (.cons (.var 5) .nil)))) .nil))) .nil)))
def envL (rows : List Int) (wsD : D) (way : Way) (s : Ws) (t : Int) (q : Nat) (o9 o10 : Option D) : Env := [some (rwsD rows), some wsD, some (.str way.str), some (.int (s.pl : Int)), some (.int s.st), some (prD (s.sp, s.ss)), some (.tup (prsD s.wt)), some (.int t), some (.ref q), o9, o10]
theorem at_one {x y : D} : L2.atI [x, y] 1 = some y := rfl
theorem lstep_ok (hr : rows.length ≤ 1000) (w : Wi rows s) {t : Int} (ht : way ≠ .again → t = (s.tk : Int)) {wsD : D} {acc : List D} (hacc : acc.length < 1000000) {o9 o10 : Option D} (wd : Word) :
    ∃ t' o9' o10', forBody cf (.nm 9) bodyL (.str wd.str) (envL rows wsD way s t M.length o9 o10) (M ++ [MO.lst acc]) = some ((.nx, envL rows wsD way (wStep rows way s wd).2 t' M.length o9' o10'), M ++ [MO.lst (acc ++ [dueD (wStep rows way s wd)])]) ∧ (way ≠ .again → t' = ((wStep rows way s wd).2.tk : Int)) := by
  have hline : line = 16000000 := rfl
  obtain ⟨b1, b2, b3⟩ := w
  have app : ∀ (v : Env) (d0 d1 d2 : D), v[8]? = some (some (.ref M.length)) → v[10]? = some (some d0) → v[3]? = some (some d1) → v[5]? = some (some d2) → ex cf (.expr (.meth (.var 8) none (some .append) (.cons (.tup (.cons (.var 10) (.cons (.var 3) (.cons (.var 5) .nil)))) .nil))) v (M ++ [MO.lst acc]) = some ((.nx, v), M ++ [MO.lst (acc ++ [.tup [d0, d1, d2]])]) := fun v d0 d1 d2 e8 e10 e3 e5 => by
    have := app_ok (cf := cf) (v := v) (M := M ++ [MO.lst acc]) (n := M.length) (m := none) (e := .tup (.cons (.var 10) (.cons (.var 3) (.cons (.var 5) .nil)))) (d := .tup [d0, d1, d2]) (M2 := M ++ [MO.lst acc]) (at_last _) (by simp [e10, e3, e5, line]) (at_last _) (by omega)
    rw [set_last] at this
    simp [e8, this]
  have lw : (prsD s.wt).length + 1 ≤ line := by rw [prsD_len]; omega
  rw [forBody_ap]
  cases wd with
  | keep =>
    refine ⟨t, some (.str Word.keep.str), some (.tup (prsD s.wt)), ?_, fun h => by simpa [wStep] using ht h⟩
    have ha := app (envL rows wsD way (wStep rows way s .keep).2 t M.length (some (.str Word.keep.str)) (some (.tup (prsD s.wt)))) (.tup (prsD s.wt)) (.int s.pl) (prD (s.pl, s.st)) rfl rfl rfl rfl
    simp [envL, wStep, prsD, prD] at ha
    simp [bodyL, envL, c_step, c_keep, eq_word, setAll, ha, wStep, prsD, prD, dueD, line]
  | fall =>
    refine ⟨t, some (.str Word.fall.str), some (.tup []), ?_, fun h => by simpa [wStep] using ht h⟩
    have ha := app (envL rows wsD way (wStep rows way s .fall).2 t M.length (some (.str Word.fall.str)) (some (.tup []))) (.tup []) (.int s.sp) (prD (s.sp, s.ss)) rfl rfl rfl rfl
    simp [envL, wStep, prsD, prD] at ha
    simp [bodyL, envL, c_step, c_keep, c_fall, eq_word, setAll, ha, wStep, prsD, prD, dueD, line, at_zero, at_one]
  | step =>
    cases e : rows[s.pl]? with
    | none =>
      have hp : ¬ ((s.pl : Int) < (rows.length : Int)) := by
        have := List.getElem?_eq_none_iff.mp e
        omega
      refine ⟨t, some (.str Word.step.str), some (.tup []), ?_, fun h => by simpa [wStep, e] using ht h⟩
      have ha := app (envL rows wsD way s t M.length (some (.str Word.step.str)) (some (.tup []))) (.tup []) (.int s.pl) (prD (s.sp, s.ss)) rfl rfl rfl rfl
      simp [envL, rwsD, prsD, prD] at ha
      simp [bodyL, envL, c_step, c_keep, c_fall, eq_word, ha, wStep, e, prsD, prD, dueD, line, rwsD, hp]
    | some r =>
      have hl := (List.getElem?_eq_some_iff.mp e).1
      have hp : (s.pl : Int) < (rows.length : Int) := by omega
      cases way with
      | again =>
        refine ⟨(s.pl : Int) + 1, some (.str Word.step.str), some (.tup [prD (s.pl, s.st + r)]), ?_, fun h => absurd rfl h⟩
        have ha := app (envL rows wsD .again (wStep rows .again s .step).2 ((s.pl : Int) + 1) M.length (some (.str Word.step.str)) (some (.tup [prD (s.pl, s.st + r)]))) (.tup [prD (s.pl, s.st + r)]) (.int (wStep rows .again s .step).2.pl) (prD (s.sp, s.ss)) rfl rfl rfl (by simp [wStep, e, envL])
        simp [envL, rwsD, prsD, prD, wStep, e] at ha
        simp [bodyL, envL, c_step, c_keep, c_fall, c_seldom, c_again, eq_word, eq_way, ha, wStep, e, prsD, prD, dueD, line, rwsD, hp, at_rows]
      | seldom =>
        refine ⟨t, some (.str Word.step.str), some (.tup []), ?_, fun h => by simpa [wStep, e] using ht h⟩
        have ha := app (envL rows wsD .seldom (wStep rows .seldom s .step).2 t M.length (some (.str Word.step.str)) (some (.tup []))) (.tup []) (.int (wStep rows .seldom s .step).2.pl) (prD (s.sp, s.ss)) rfl rfl rfl (by simp [wStep, e, envL])
        simp [prsD] at lw
        simp [envL, rwsD, prsD, prD, wStep, e] at ha
        simp [bodyL, envL, c_step, c_keep, c_fall, c_seldom, c_again, eq_word, eq_way, ha, wStep, e, prsD, prD, dueD, rwsD, hp, at_rows, op2_add_tup, lw, show (2 : Nat) ≤ line by omega, show (1 : Nat) ≤ line by omega]
      | once =>
        have htk := ht (by decide)
        by_cases hk : s.pl = s.tk
        · have hkt : (s.pl = s.tk) = True := eq_true hk
          have hki : ((s.pl : Int) = (s.tk : Int)) = True := eq_true (by omega)
          refine ⟨(s.pl : Int) + 1, some (.str Word.step.str), some (.tup [prD (s.pl, s.st + r)]), ?_, fun h => by simp only [wStep, e, hkt, if_true]; omega⟩
          have ha := app (envL rows wsD .once (wStep rows .once s .step).2 ((s.pl : Int) + 1) M.length (some (.str Word.step.str)) (some (.tup [prD (s.pl, s.st + r)]))) (.tup [prD (s.pl, s.st + r)]) (.int (wStep rows .once s .step).2.pl) (prD (s.sp, s.ss)) rfl rfl rfl (by simp only [wStep, e, hkt, if_true, envL]; rfl)
          simp [envL, rwsD, prsD, prD, wStep, e, hkt] at ha
          simp [bodyL, envL, c_step, c_keep, c_fall, c_seldom, c_again, eq_word, eq_way, ha, wStep, e, prsD, prD, dueD, line, rwsD, hp, at_rows, hkt, hki, htk]
        · have hkt : (s.pl = s.tk) = False := eq_false hk
          have hki : ((s.pl : Int) = (s.tk : Int)) = False := eq_false (by omega)
          refine ⟨t, some (.str Word.step.str), some (.tup []), ?_, fun h => by simp only [wStep, e, hkt, if_false]; exact htk⟩
          have ha := app (envL rows wsD .once (wStep rows .once s .step).2 t M.length (some (.str Word.step.str)) (some (.tup []))) (.tup []) (.int (wStep rows .once s .step).2.pl) (prD (s.sp, s.ss)) rfl rfl rfl (by simp only [wStep, e, hkt, if_false, envL]; rfl)
          simp [envL, rwsD, prsD, prD, wStep, e, hkt, htk] at ha
          simp [bodyL, envL, c_step, c_keep, c_fall, c_seldom, c_again, eq_word, eq_way, ha, wStep, e, prsD, prD, dueD, line, rwsD, hp, at_rows, hkt, hki, htk]
end
end Ev
namespace Ev
open PySem
theorem runW_len (rows : List Int) (way : Way) : ∀ (ws : List Word) (s : Ws), (runW rows way s ws).length = ws.length
  | [], _ => rfl
  | w :: ws, s => by rw [runW, List.length_cons, runW_len rows way ws, List.length_cons]
theorem outs_le {rows : List Int} {way : Way} (hr : rows.length ≤ 1000) : ∀ (ws : List Word) (s : Ws), Wi rows s → (outsW rows way s ws).length ≤ 2000 * ws.length
  | [], _, _ => by simp [outsW, runW]
  | w :: ws, s, h => by
    have := outs_le (way := way) hr ws _ (h.step way w)
    have h2 := h.out hr way w
    have e3 : outsW rows way s (w :: ws) = (wStep rows way s w).1 ++ outsW rows way (wStep rows way s w).2 ws := by simp [outsW, runW]
    rw [e3, List.length_append, List.length_cons]
    omega
section
variable [Tab] {P : List FD} {i k n q : Nat} {cf : Cf} {v : Env} {M : Mem} {rows : List Int} {way : Way} {s : Ws} {ds : List Int}
theorem lloop_ok (hr : rows.length ≤ 1000) {wsD : D} : ∀ (ws : List Word) (s : Ws) (t : Int) (acc : List D) (o9 o10 : Option D), Wi rows s → (way ≠ .again → t = (s.tk : Int)) → acc.length + ws.length < 1000000 →
    ∃ v', forL (forBody cf (.nm 9) bodyL) none (wdsD ws) (envL rows wsD way s t M.length o9 o10) (M ++ [MO.lst acc]) = some ((.nx, v'), M ++ [MO.lst (acc ++ (runW rows way s ws).map dueD)]) ∧ v'[8]? = some (some (.ref M.length))
  | [], s, t, acc, o9, o10, _, _, _ => ⟨_, by rw [wdsD, List.map_nil, forL_nil0, runW, List.map_nil, List.append_nil], rfl⟩
  | wd :: ws, s, t, acc, o9, o10, w, ht, hl => by
    obtain ⟨t', p9, p10, e1, ht'⟩ := lstep_ok (cf := cf) (M := M) hr w ht (wsD := wsD) (acc := acc) (by simp only [List.length_cons] at hl; omega) (o9 := o9) (o10 := o10) wd
    obtain ⟨v', e2, e3⟩ := lloop_ok hr ws (wStep rows way s wd).2 t' (acc ++ [dueD (wStep rows way s wd)]) p9 p10 (w.step way wd) ht' (by simp only [List.length_cons, List.length_append, List.length_nil] at hl ⊢; omega) (wsD := wsD)
    refine ⟨v', ?_, e3⟩
    rw [wdsD, List.map_cons, forL_cons0 e1]
    rw [runW, List.map_cons, show acc ++ dueD (wStep rows way s wd) :: (runW rows way (wStep rows way s wd).2 ws).map dueD = acc ++ [dueD (wStep rows way s wd)] ++ (runW rows way (wStep rows way s wd).2 ws).map dueD by simp]
    exact e2
@[simp] theorem asgT_tp' (ts : List Tg) (ds : List D) : asgT (.tp ts) (.tup ds) v = asgTs ts ds v := by rw [asgT]
@[simp] theorem asgTs_nil' : asgTs [] [] v = some v := by rw [asgTs]
@[simp] theorem asgTs_cons' (t : Tg) (ts : List Tg) (d : D) (ds : List D) : asgTs (t :: ts) (d :: ds) v = match asgT t d v with
  | some v' => asgTs ts ds v'
  | none => none := by
  first
    | (rw [asgTs]; done)
    | (rw [asgTs]; cases asgT t d v <;> rfl)
theorem fin_ref {M' : Mem} (h : M.length ≤ q) : fin M (.ref q) M' = (.ref q, M') := by
  unfold fin
  rw [if_neg]
  rw [Bool.and_eq_true]
  rintro ⟨w, _⟩
  simp [D.lo] at w
  omega
theorem ltold_ok (h : P[5]? = some ⟨3, 11, bLTold⟩) (hr : rows.length ≤ 1000) {ws : List Word} (hw : ws.length ≤ 1000) :
    callAt P (k + 1) 5 [rwsD rows, .tup (wdsD ws), .str way.str] M = some (.ref M.length, M ++ [MO.lst ((runW rows way ws0 ws).map dueD)]) := by
  rw [call_eq h rfl]
  obtain ⟨v', e1, e2⟩ := lloop_ok (cf := cfA P k) (M := M) (way := way) hr (wsD := .tup (wdsD ws)) ws ws0 0 [] none none ⟨Nat.zero_le _, Nat.zero_le _, by simp [ws0]⟩ (fun _ => rfl) (by simp; omega)
  have hit : evIt (cfA P k) (.ex (.var 1)) (envL rows (.tup (wdsD ws)) way ws0 0 M.length none none) (M ++ [MO.lst []]) = some ((wdsD ws, none), M ++ [MO.lst []]) := evIt_ex (x := .v (.tup (wdsD ws))) (by simp [envL]) rfl
  rw [List.nil_append] at e1
  have s1 : ex (cfA P k) (.asg (.tg (.tp [(.nm 3), (.nm 4), (.nm 5), (.nm 6), (.nm 7), (.nm 8)])) (.tup (.cons (.cst (.int 0)) (.cons (.cst (.int 0)) (.cons (.tup (.cons (.cst (.int 0)) (.cons (.cst (.int 0)) .nil))) (.cons (.tup .nil) (.cons (.cst (.int 0)) (.cons (.lst .nil) .nil)))))))) (List.map some [rwsD rows, .tup (wdsD ws), .str way.str] ++ List.replicate (11 - 3) none) M =
      some ((.nx, envL rows (.tup (wdsD ws)) way ws0 0 M.length none none), M ++ [MO.lst []]) := by
    simp [line, envL, ws0, prD, prsD, List.replicate]
  have hf := fin_ref (M := M) (M' := M ++ [MO.lst ((runW rows way ws0 ws).map dueD)]) (Nat.le_refl _)
  unfold bLTold
  rw [exs_cons, s1, bnd_some, kSs_nx, exs_cons, ex_for, hit, bnd_some, kFor_ap]
  show bnd (bnd (forL (forBody (cfA P k) (.nm 9) bodyL) none (wdsD ws) (envL rows (.tup (wdsD ws)) way ws0 0 M.length none none) (M ++ [MO.lst []])) _) _ = _
  rw [e1, bnd_some, kSs_nx]
  simp [e2, hf]
/-! .. flat -/
theorem forL_nilg {b : D → Env → Mem → Option ((Fl × Env) × Mem)} {g : Option (Nat × MO)} (hg : still M g = true) : forL b g [] v M = some ((.nx, v), M) := by
  unfold forL
  rw [if_pos hg]
theorem forL_consg {b : D → Env → Mem → Option ((Fl × Env) × Mem)} {g : Option (Nat × MO)} {d : D} {ds : List D} {v' : Env} {M' : Mem} (hg : still M g = true) (h : b d v M = some ((.nx, v'), M')) : forL b g (d :: ds) v M = forL b g ds v' M' := by
  rw [forL, if_pos hg, h, bnd_some]
theorem floop_ok {g : Option (Nat × MO)} (hg : still M g = true) {a0 : Option D} : ∀ (rs : List (List (Nat × Int) × Ws)) (acc : List (Nat × Int)) (o2 o3 o4 : Option D), acc.length + (rs.flatMap (·.1)).length ≤ 10000000 →
    ∃ v', forL (forBody cf (.tp [(.nm 2), (.nm 3), (.nm 4)]) (.cons (.asg (.tg (.nm 1)) (.op .add (.var 1) (.var 2))) .nil)) g (rs.map dueD) [a0, some (.tup (prsD acc)), o2, o3, o4] M = some ((.nx, v'), M) ∧ v'[1]? = some (some (.tup (prsD (acc ++ rs.flatMap (·.1)))))
  | [], acc, o2, o3, o4, _ => ⟨_, by rw [List.map_nil, forL_nilg hg], by simp⟩
  | r :: rs, acc, o2, o3, o4, hl => by
    have hline : line = 16000000 := rfl
    rw [List.flatMap_cons, List.length_append] at hl
    obtain ⟨v', e1, e2⟩ := floop_ok hg rs (acc ++ r.1) (some (.tup (prsD r.1))) (some (.int r.2.pl)) (some (prD (r.2.sp, r.2.ss))) (by rw [List.length_append]; omega) (a0 := a0)
    have hle : (prsD acc).length + (prsD r.1).length ≤ line := by rw [prsD_len, prsD_len]; omega
    refine ⟨v', ?_, by rw [e2, List.flatMap_cons, List.append_assoc]⟩
    rw [List.map_cons, forL_consg hg (v' := [a0, some (.tup (prsD (acc ++ r.1))), some (.tup (prsD r.1)), some (.int r.2.pl), some (prD (r.2.sp, r.2.ss))]) (M' := M) (by rw [forBody_ap]; simp [dueD, op2_add_tup, hle, prsD_app])]
    exact e1
theorem flat_ok (h : P[7]? = some ⟨1, 5, bFlat⟩) {rs : List (List (Nat × Int) × Ws)} (hq : M[q]? = some (.lst (rs.map dueD))) (hl : (rs.flatMap (·.1)).length ≤ 10000000) : callAt P (k + 1) 7 [.ref q] M = some (.tup (prsD (rs.flatMap (·.1))), M) := by
  rw [call_eq h rfl]
  obtain ⟨v', e1, e2⟩ := floop_ok (cf := cfA P k) (M := M) (g := some (q, .lst (rs.map dueD))) (still_some hq) (a0 := some (.ref q)) rs [] none none none (by simpa using hl)
  have hit : evIt (cfA P k) (.ex (.var 0)) [some (.ref q), some (.tup []), none, none, none] M = some ((rs.map dueD, some (q, .lst (rs.map dueD))), M) := by
    rw [evIt_ex (x := .v (.ref q)) (by simp) (itemsOf_ref' hq), guardOf_ref hq]
  have e1 : forL (forBody (cfA P k) (.tp [(.nm 2), (.nm 3), (.nm 4)]) (.cons (.asg (.tg (.nm 1)) (.op .add (.var 1) (.var 2))) .nil)) (some (q, .lst (rs.map dueD))) (rs.map dueD) [some (.ref q), some (.tup []), none, none, none] M = some ((.nx, v'), M) := e1
  rw [List.nil_append] at e2
  simp [bFlat, hit, e1, e2, fin_self]
/-! .. what the law draws -/
theorem fin_w {M' : Mem} {d : D} (hd : d.pure = true) (h : WM ds M) (h' : WM ds M') : ∃ X, fin M d M' = (d, X) ∧ WM ds X := by
  unfold fin
  split
  · obtain ⟨n, h1, h2⟩ := h
    obtain ⟨m, h3, h4⟩ := h'
    have l1 := (List.getElem?_eq_some_iff.mp h1).1
    exact ⟨_, rfl, m, by rw [List.getElem?_take_of_lt l1]; exact h3, by rw [List.getElem?_take_of_lt (by omega)]; exact h4⟩
  · exact ⟨_, rfl, h'⟩
theorem script_ok (h6 : P[6]? = some ⟨1, 3, bScript⟩) (h2 : P[2]? = some ⟨2, 2, bNext⟩) (h3 : P[3]? = some ⟨2, 2, bPick 2⟩) (hd : ds.length ≤ line) (hw : WM ds M) :
    ∃ rows ws M', callAt P (k + 3) 6 [.ref 2] M = some (.tup [rwsD rows, .tup (wdsD ws)], M') ∧ WM ds M' ∧ rows.length ≤ 100 ∧ ws.length ≤ 100 := by
  rw [call_eq h6 rfl]
  -- rows
  obtain ⟨c, M1, q1, q2, q3, _⟩ := next_w (k := k + 1) h2 hd hw (m := 7) (by decide)
  have hit1 : evIt (cfA P (k + 2)) (.rng (.cst (.int 0)) (.call 2 (.cons (.var 0) (.cons (.cst (.int 7)) .nil)))) [some (.ref 2), none, none] M = some ((rangeD 0 c, none), M1) := rng_ok (M1 := M) (by simp) (by simp [q1]) (by omega)
  obtain ⟨rs, M2, e1, w2, rows, e3, e4⟩ := lc_ok (body := lcBody (cfA P (k + 2)) (.op .sub (.call 2 (.cons (.var 0) (.cons (.cst (.int 9)) .nil))) (.cst (.int 4))) (.nm 2) (.cst (.bl true)) [2] [some (.ref 2), none, none]) (g := none)
    (fun j acc M => WM ds M ∧ ∃ rows : List Int, acc = rows.map .int ∧ rows.length = j) (fun _ _ _ _ => rfl) (ds := rangeD 0 c) (j := 0) (acc := []) (M := M1) (fun i d acc M hd' ⟨hw, rows, e3, e4⟩ => by
      obtain ⟨b, M2, r1, r2, r3, _⟩ := next_w (k := k + 1) h2 hd hw (m := 9) (by decide)
      refine ⟨some (.int ((b : Int) - 4)), M2, ?_, r3, rows ++ [(b : Int) - 4], by simp [e3], by simp [e4]⟩
      rw [lcBody_ap]
      simp [wipeE, r1]) ⟨q3, [], rfl, rfl⟩
  rw [List.nil_append] at e3
  rw [rangeD_len] at e4
  subst e3
  have s1 : ex (cfA P (k + 2)) (.asg (.tg (.nm 1)) (.bi .tuple (.cons (.lc (.op .sub (.call 2 (.cons (.var 0) (.cons (.cst (.int 9)) .nil))) (.cst (.int 4))) (.nm 2) (.rng (.cst (.int 0)) (.call 2 (.cons (.var 0) (.cons (.cst (.int 7)) .nil)))) (.cst (.bl true)) [2]) .nil))) [some (.ref 2), none, none] M = some ((.nx, [some (.ref 2), some (rwsD rows), none]), M2) := by
    simp [hit1, e1, rwsD]
  -- words
  obtain ⟨c', M3, p1, p2, p3, _⟩ := next_w (k := k + 1) h2 hd w2 (m := 13) (by decide)
  have hit2 : evIt (cfA P (k + 2)) (.rng (.cst (.int 0)) (.call 2 (.cons (.var 0) (.cons (.cst (.int 13)) .nil)))) [some (.ref 2), some (rwsD rows), none] M2 = some ((rangeD 0 c', none), M3) := rng_ok (M1 := M2) (by simp) (by simp [p1]) (by omega)
  obtain ⟨rs', M4, f1, w4, ws, f3, f4⟩ := lc_ok (body := lcBody (cfA P (k + 2)) (.call 3 (.cons (.var 0) (.cons (.lst (.cons (.cst (.str "step")) (.cons (.cst (.str "step")) (.cons (.cst (.str "step")) (.cons (.cst (.str "keep")) (.cons (.cst (.str "fall")) .nil)))))) .nil))) (.nm 2) (.cst (.bl true)) [2] [some (.ref 2), some (rwsD rows), none]) (g := none)
    (fun j acc M => WM ds M ∧ ∃ ws : List Word, acc = wdsD ws ∧ ws.length = j) (fun _ _ _ _ => rfl) (ds := rangeD 0 c') (j := 0) (acc := []) (M := M3) (fun i d acc M hd' ⟨hw, ws, e3, e4⟩ => by
      obtain ⟨x, M3, s1, s2, s3⟩ := pick_w (k := k) h3 h2 hd hw (xs := [.str "step", .str "step", .str "step", .str "keep", .str "fall"]) (by simp) (by simp [D.pure])
      obtain ⟨wd, hwd⟩ : ∃ wd : Word, x = .str wd.str := by
        simp at s2
        rcases s2 with rfl | rfl | rfl
        · exact ⟨.step, rfl⟩
        · exact ⟨.keep, rfl⟩
        · exact ⟨.fall, rfl⟩
      subst hwd
      refine ⟨some (.str wd.str), M3, ?_, s3, ws ++ [wd], by simp [e3, wdsD], by simp [e4]⟩
      rw [lcBody_ap]
      simp [wipeE, s1, line]) ⟨p3, [], rfl, rfl⟩
  rw [List.nil_append] at f3
  rw [rangeD_len] at f4
  subst f3
  obtain ⟨X, hX, wX⟩ := fin_w (M := M) (M' := M4) (d := .tup [rwsD rows, .tup (wdsD ws)]) (by
    have a1 : D.pures (rows.map D.int) = true := pures_int rows
    have a2 : D.pures (wdsD ws) = true := pures_iff.mpr fun d hd => by
      obtain ⟨w, _, rfl⟩ := List.mem_map.mp hd
      rfl
    simp [D.pure, D.pures, rwsD, a1, a2]) hw w4
  refine ⟨rows, ws, X, ?_, wX, by omega, by omega⟩
  show bnd (exs (cfA P (k + 2)) bScript [some (.ref 2), none, none] M) _ = _
  unfold bScript
  rw [exs_cons, s1, bnd_some, kSs_nx]
  simp [hit2, f1, hX, line]
end
end Ev
namespace Ev
open PySem
def bWord : Ss := (.cons (.ite (.or (.not (.call 4 (.cons (.meth (.var 7) (some 7) none (.cons (.ix (.var 4) (.var 8)) .nil)) (.cons (.ix (.ix (.var 6) (.var 8)) (.cst (.int 0))) .nil)))) (.or (.not (.call 4 (.cons (.meth (.var 7) (some 8) none .nil) (.cons (.ix (.ix (.var 6) (.var 8)) (.cst (.int 1))) .nil)))) (.not (.call 4 (.cons (.meth (.var 7) (some 9) none .nil) (.cons (.ix (.ix (.var 6) (.var 8)) (.cst (.int 2))) .nil)))))) (.cons (.ret (.cst (.bl false))) .nil) .nil) .nil)
def bWay : Ss := (.cons (.asg (.tg (.nm 6)) (.call 5 (.cons (.var 3) (.cons (.var 4) (.cons (.var 5) .nil))))) (.cons (.ite (.not (.call 4 (.cons (.call 0 (.cons (.var 3) (.cons (.var 4) (.cons (.var 5) .nil)))) (.cons (.call 7 (.cons (.var 6) .nil)) .nil)))) (.cons (.ret (.cst (.bl false))) .nil) .nil) (.cons (.asg (.tg (.nm 7)) (.mk 0 (.cons (.var 3) (.cons (.var 5) .nil)))) (.cons (.for (.nm 8) (.rng (.cst (.int 0)) (.bi .len (.cons (.var 4) .nil))) bWord) .nil))))
def bTurn41 : Ss := (.cons (.asg (.tg (.tp [(.nm 3), (.nm 4)])) (.call 6 (.cons (.var 1) .nil))) (.cons (.for (.nm 5) (.ex (.tup (.cons (.cst (.str "again")) (.cons (.cst (.str "seldom")) (.cons (.cst (.str "once")) .nil))))) bWay) .nil))
def bLaw41' : Ss := (.cons (.asg (.tg (.nm 1)) (.dic false (.cons (.cst (.str "draws")) (.cons (.call 1 (.cons (.var 0) (.cons (.cst (.int 500)) .nil))) (.cons (.cst (.str "at")) (.cons (.cst (.int 0)) .nil)))))) (.cons (.for (.nm 2) (.rng (.cst (.int 0)) (.cst (.int 8))) bTurn41) (.cons (.ret (.call 4 (.cons (.call 0 (.cons (.tup (.cons (.cst (.int 5)) (.cons (.cst (.int 6)) .nil))) (.cons (.tup (.cons (.cst (.str "step")) (.cons (.cst (.str "fall")) (.cons (.cst (.str "step")) (.cons (.cst (.str "step")) .nil))))) (.cons (.cst (.str "once")) .nil)))) (.cons (.tup (.cons (.tup (.cons (.cst (.int 0)) (.cons (.cst (.int 5)) .nil))) (.cons (.tup (.cons (.cst (.int 1)) (.cons (.cst (.int 11)) .nil))) .nil))) .nil)))) .nil)))
structure K41 (P : List FD) : Prop where
  h0 : P[0]? = some ⟨3, 6, bTold⟩
  h1 : P[1]? = some ⟨2, 8, bDraws⟩
  h2 : P[2]? = some ⟨2, 2, bNext⟩
  h3 : P[3]? = some ⟨2, 2, bPick 2⟩
  h4 : P[4]? = some ⟨2, 3, bAlike 4⟩
  h5 : P[5]? = some ⟨3, 11, bLTold⟩
  h6 : P[6]? = some ⟨1, 3, bScript⟩
  h7 : P[7]? = some ⟨1, 5, bFlat⟩
  h9 : P[9]? = some ⟨3, 3, bInit⟩
  h10 : P[10]? = some ⟨1, 3, bStep⟩
  h11 : P[11]? = some ⟨2, 3, bDo⟩
  h12 : P[12]? = some ⟨1, 1, bPlace⟩
  h13 : P[13]? = some ⟨1, 1, bKeptW⟩
section
variable [Tab] {P : List FD} {i k n q : Nat} {cf : Cf} {v : Env} {M : Mem} {rows : List Int} {way : Way} {s : Ws} {ds : List Int}
theorem WM.fr {M' : Mem} (h : WM ds M) (hn : 2 < n) (f : ∀ j, j < n → M'[j]? = M[j]?) : WM ds M' := by
  obtain ⟨m, h1, h2⟩ := h
  exact ⟨m, (f 2 hn).trans h1, (f 1 (by omega)).trans h2⟩
theorem pr_fit (p : Nat × Int) : Fit 2 (prD p) := by
  refine .inr ⟨_, rfl, by simp, fun e he => ?_⟩
  simp at he
  rcases he with rfl | rfl
  · exact .inl (.inr (.inr (.inl ⟨_, rfl⟩)))
  · exact .inl (.inr (.inr (.inl ⟨_, rfl⟩)))
theorem prs_fit {l : List (Nat × Int)} (h : l.length ≤ 1000000) : Fit 3 (.tup (prsD l)) := by
  refine .inr ⟨_, rfl, by rw [prsD_len]; exact h, fun e he => ?_⟩
  obtain ⟨p, _, rfl⟩ := List.mem_map.mp he
  exact pr_fit p
theorem at3_0 {x y z : D} : L2.atI [x, y, z] 0 = some x := rfl
theorem at3_1 {x y z : D} : L2.atI [x, y, z] 1 = some y := rfl
theorem at3_2 {x y z : D} : L2.atI [x, y, z] 2 = some z := rfl
def env41 (a0 a2 : Option D) (rows : List Int) (ws : List Word) (way : Way) (q n : Nat) (o8 : Option D) : Env := [a0, some (.ref 2), a2, some (rwsD rows), some (.tup (wdsD ws)), some (.str way.str), some (.ref q), some (.ref n), o8]
theorem word_ok (C : C41) (K : K41 P) (hr : rows.length ≤ 1000) {a0 a2 : Option D} {ws : List Word} {dues : List (List (Nat × Int) × Ws)} {j : Nat} {wd : Word} (w : Wkr rows way n s M) (hq : q < n) (hd : M[q]? = some (.lst (dues.map dueD))) (hj : ws[j]? = some wd) (hdj : dues[j]? = some (wStep rows way s wd)) :
    ∃ M', exs (cfA P 39) bWord (env41 a0 a2 rows ws way q n (some (.int j))) M = some ((.nx, env41 a0 a2 rows ws way q n (some (.int j))), M') ∧ Wkr rows way n (wStep rows way s wd).2 M' ∧ (∀ j, j < n → M'[j]? = M[j]?) := by
  obtain ⟨M1, e1, w1, f1, l1⟩ := do_ok (k := 37) C K.h10 K.h11 w hr wd
  have e1 : callAt P 39 11 [.ref n, .str wd.str] M = some (.tup (prsD (wStep rows way s wd).1), M1) := e1
  have hd1 : M1[q]? = some (.lst (dues.map dueD)) := (f1 q hq).trans hd
  have ho := w.wi.out hr way wd
  have al1 : callAt P 39 4 [.tup (prsD (wStep rows way s wd).1), .tup (prsD (wStep rows way s wd).1)] M1 = some (.bl true, M1) := alike_ok (k := 35) K.h4 3 _ M1 (prs_fit (by omega))
  have pl : callAt P 39 12 [.ref n] M1 = some (.int (wStep rows way s wd).2.pl, M1) := place_ok (k := 38) C K.h12 w1
  have al2 : callAt P 39 4 [.int (wStep rows way s wd).2.pl, .int (wStep rows way s wd).2.pl] M1 = some (.bl true, M1) := alike_flat (k := 38) K.h4 (.inr (.inr (.inl ⟨_, rfl⟩))) M1
  have kp : callAt P 39 13 [.ref n] M1 = some (prD ((wStep rows way s wd).2.sp, (wStep rows way s wd).2.ss), M1) := keptw_ok (k := 38) C K.h13 w1
  have al3 : callAt P 39 4 [prD ((wStep rows way s wd).2.sp, (wStep rows way s wd).2.ss), prD ((wStep rows way s wd).2.sp, (wStep rows way s wd).2.ss)] M1 = some (.bl true, M1) := alike_ok (k := 36) K.h4 2 _ M1 (pr_fit _)
  have hix : ixD M1 (.v (.ref q)) (.int j) = some (dueD (wStep rows way s wd)) := by
    rw [ixD_lst _ hd1, atI_nat, List.getElem?_map, hdj]
    rfl
  have hw4 : L2.atI (wdsD ws) (j : Int) = some (.str wd.str) := by
    rw [atI_nat, wdsD, List.getElem?_map, hj]
    rfl
  have hm7 : kMth (cfA P 39) (some 7) none (.cons (.ix (.var 4) (.var 8)) .nil) (env41 a0 a2 rows ws way q n (some (.int j))) (.v (.ref n)) M = bnd (evs (cfA P 39) (.cons (.ix (.var 4) (.var 8)) .nil) (env41 a0 a2 rows ws way q n (some (.int j))) M) (kMth1 (cfA P 39) n 11) := by
    obtain ⟨q', _, g, _⟩ := w
    exact meth_own' g rfl C.m7
  have hm8 : kMth (cfA P 39) (some 8) none .nil (env41 a0 a2 rows ws way q n (some (.int j))) (.v (.ref n)) M1 = bnd (evs (cfA P 39) .nil (env41 a0 a2 rows ws way q n (some (.int j))) M1) (kMth1 (cfA P 39) n 12) := by
    obtain ⟨q', _, g, _⟩ := w1
    exact meth_own' g rfl C.m8
  have hm9 : kMth (cfA P 39) (some 9) none .nil (env41 a0 a2 rows ws way q n (some (.int j))) (.v (.ref n)) M1 = bnd (evs (cfA P 39) .nil (env41 a0 a2 rows ws way q n (some (.int j))) M1) (kMth1 (cfA P 39) n 13) := by
    obtain ⟨q', _, g, _⟩ := w1
    exact meth_own' g rfl C.m9
  have v4 : (env41 a0 a2 rows ws way q n (some (.int j)))[4]? = some (some (.tup (wdsD ws))) := rfl
  have v6 : (env41 a0 a2 rows ws way q n (some (.int j)))[6]? = some (some (.ref q)) := rfl
  have v7 : (env41 a0 a2 rows ws way q n (some (.int j)))[7]? = some (some (.ref n)) := rfl
  have v8 : (env41 a0 a2 rows ws way q n (some (.int j)))[8]? = some (some (.int j)) := rfl
  generalize env41 a0 a2 rows ws way q n (some (.int j)) = v at *
  have c1 : ev (cfA P 39) (.call 4 (.cons (.meth (.var 7) (some 7) none (.cons (.ix (.var 4) (.var 8)) .nil)) (.cons (.ix (.ix (.var 6) (.var 8)) (.cst (.int 0))) .nil))) v M = some (.v (.bl true), M1) := by
    simp [v7, v4, v8, v6, hm7, hw4, e1, hix, dueD, at3_0, al1]
  have c2 : ev (cfA P 39) (.call 4 (.cons (.meth (.var 7) (some 8) none .nil) (.cons (.ix (.ix (.var 6) (.var 8)) (.cst (.int 1))) .nil))) v M1 = some (.v (.bl true), M1) := by
    simp [v7, v4, v8, v6, hm8, pl, hix, dueD, at3_1, al2]
  have c3 : ev (cfA P 39) (.call 4 (.cons (.meth (.var 7) (some 9) none .nil) (.cons (.ix (.ix (.var 6) (.var 8)) (.cst (.int 2))) .nil))) v M1 = some (.v (.bl true), M1) := by
    simp [v7, v4, v8, v6, hm9, kp, hix, dueD, at3_2, al3]
  refine ⟨M1, ?_, w1, f1⟩
  unfold bWord
  simp only [exs_cons, ex_ite, evB_eq', ev_or, ev_not, c1, c2, c3, bnd_some, kNot_ap, kOr_ap, Bool.not_true, Bool.false_eq_true, if_false, toB_ap, kIteS_ap, exs_nil, kSs_nx]
theorem way_ok (C : C41) (K : K41 P) (hr : rows.length ≤ 1000) {ws : List Word} (hw : ws.length ≤ 100) (hM : WM ds M) {a0 a2 o6 o7 o8 : Option D} :
    ∃ p6 p7 p8 M', exs (cfA P 39) bWay [a0, some (.ref 2), a2, some (rwsD rows), some (.tup (wdsD ws)), some (.str way.str), o6, o7, o8] M = some ((.nx, [a0, some (.ref 2), a2, some (rwsD rows), some (.tup (wdsD ws)), some (.str way.str), p6, p7, p8]), M') ∧ WM ds M' := by
  have hline : line = 16000000 := rfl
  have wi0 : Wi rows ws0 := ⟨Nat.zero_le _, Nat.zero_le _, by simp [ws0]⟩
  have l2 : 2 < M.length := by
    obtain ⟨m, h1, _⟩ := hM
    exact (List.getElem?_eq_some_iff.mp h1).1
  have e5 : callAt P 39 5 [rwsD rows, .tup (wdsD ws), .str way.str] M = some (.ref M.length, M ++ [MO.lst ((runW rows way ws0 ws).map dueD)]) := ltold_ok (k := 38) K.h5 hr (by omega)
  have s1 : ex (cfA P 39) (.asg (.tg (.nm 6)) (.call 5 (.cons (.var 3) (.cons (.var 4) (.cons (.var 5) .nil))))) [a0, some (.ref 2), a2, some (rwsD rows), some (.tup (wdsD ws)), some (.str way.str), o6, o7, o8] M = some ((.nx, [a0, some (.ref 2), a2, some (rwsD rows), some (.tup (wdsD ws)), some (.str way.str), some (.ref M.length), o7, o8]), M ++ [MO.lst ((runW rows way ws0 ws).map dueD)]) := by simp [e5]
  have hM1 : (M ++ [MO.lst ((runW rows way ws0 ws).map dueD)])[M.length]? = some (.lst ((runW rows way ws0 ws).map dueD)) := at_last _
  have wM1 := hM.app [MO.lst ((runW rows way ws0 ws).map dueD)]
  have l3 : (M ++ [MO.lst ((runW rows way ws0 ws).map dueD)]).length = M.length + 1 := by simp
  generalize M ++ [MO.lst ((runW rows way ws0 ws).map dueD)] = M1 at *
  have ho := outs_le (way := way) hr ws ws0 wi0
  have t0 : callAt P 39 0 [rwsD rows, .tup (wdsD ws), .str way.str] M1 = some (.tup (prsD (outsW rows way ws0 ws)), M1) := told_ok (k := 36) C K.h0 K.h9 K.h10 K.h11 hr (by omega)
  have f0 : callAt P 39 7 [.ref M.length] M1 = some (.tup (prsD (outsW rows way ws0 ws)), M1) := flat_ok (k := 38) K.h7 hM1 (by show (outsW rows way ws0 ws).length ≤ _; omega)
  have al : callAt P 39 4 [.tup (prsD (outsW rows way ws0 ws)), .tup (prsD (outsW rows way ws0 ws))] M1 = some (.bl true, M1) := alike_ok (k := 35) K.h4 3 _ M1 (prs_fit (by omega))
  have s2 : ex (cfA P 39) (.ite (.not (.call 4 (.cons (.call 0 (.cons (.var 3) (.cons (.var 4) (.cons (.var 5) .nil)))) (.cons (.call 7 (.cons (.var 6) .nil)) .nil)))) (.cons (.ret (.cst (.bl false))) .nil) .nil) [a0, some (.ref 2), a2, some (rwsD rows), some (.tup (wdsD ws)), some (.str way.str), some (.ref M.length), o7, o8] M1 = some ((.nx, [a0, some (.ref 2), a2, some (rwsD rows), some (.tup (wdsD ws)), some (.str way.str), some (.ref M.length), o7, o8]), M1) := by simp [t0, f0, al]
  obtain ⟨M2, e3, w3, f3, l4⟩ := wk_start (k := 37) (M := M1) (rows := rows) (way := way) C K.h9 (es := .cons (.var 3) (.cons (.var 5) .nil)) (v := [a0, some (.ref 2), a2, some (rwsD rows), some (.tup (wdsD ws)), some (.str way.str), some (.ref M.length), o7, o8]) (by simp)
  have e3 : ev (cfA P 39) (.mk 0 (.cons (.var 3) (.cons (.var 5) .nil))) [a0, some (.ref 2), a2, some (rwsD rows), some (.tup (wdsD ws)), some (.str way.str), some (.ref M.length), o7, o8] M1 = some (.v (.ref M1.length), M2) := e3
  have s3 : ex (cfA P 39) (.asg (.tg (.nm 7)) (.mk 0 (.cons (.var 3) (.cons (.var 5) .nil)))) [a0, some (.ref 2), a2, some (rwsD rows), some (.tup (wdsD ws)), some (.str way.str), some (.ref M.length), o7, o8] M1 = some ((.nx, env41 a0 a2 rows ws way M.length M1.length o8), M2) := by
    simp [e3, env41]
  have hr8 : evIt (cfA P 39) (.rng (.cst (.int 0)) (.bi .len (.cons (.var 4) .nil))) (env41 a0 a2 rows ws way M.length M1.length o8) M2 = some ((rangeD 0 ws.length, none), M2) := rng_ok (M1 := M2) (by simp) (by simp [env41, wdsD]) (by omega)
  obtain ⟨v', M', h8, ⟨p8, e8⟩, s', w8, f8, _⟩ := for_ok (b := forBody (cfA P 39) (.nm 8) bWord) (g := none)
    (fun j v M' => (∃ p8, v = env41 a0 a2 rows ws way M.length M1.length p8) ∧ ∃ s, Wkr rows way M1.length s M' ∧ (∀ i, i < M1.length → M'[i]? = M1[i]?) ∧ ∃ pre, runW rows way ws0 ws = pre ++ runW rows way s (ws.drop j) ∧ pre.length = j) (fun _ _ _ _ => rfl)
    (ds := rangeD 0 ws.length) (j := 0) (v := env41 a0 a2 rows ws way M.length M1.length o8) (M := M2) (fun j d v M' hd' ⟨⟨p8, e1⟩, s, w, f, pre, hp, hpl⟩ => by
      subst e1
      obtain ⟨rfl, hj⟩ := rangeD_at hd'
      rw [Nat.zero_add] at hp hpl
      have hjl : j < ws.length := by omega
      have hdrop : ws.drop j = ws[j] :: ws.drop (j + 1) := List.drop_eq_getElem_cons hjl
      rw [hdrop, runW] at hp
      obtain ⟨M3, g1, g2, g3⟩ := word_ok (a0 := a0) (a2 := a2) (ws := ws) (dues := runW rows way ws0 ws) (j := j) (wd := ws[j]) C K hr w (q := M.length) (by omega) ((f _ (by omega)).trans hM1) (List.getElem?_eq_getElem hjl) (by rw [hp, List.getElem?_append_right (by omega), hpl, Nat.sub_self]; rfl)
      refine ⟨env41 a0 a2 rows ws way M.length M1.length (some (.int j)), M3, .inl ?_, ⟨_, rfl⟩, _, g2, fun i hi => (g3 i hi).trans (f i hi), pre ++ [wStep rows way s ws[j]], ?_, by simp [hpl]⟩
      · rw [forBody_ap, Int.zero_add]
        exact g1
      · rw [hp, Nat.zero_add]
        simp) ⟨⟨_, rfl⟩, ws0, w3, f3, [], rfl, rfl⟩
  refine ⟨some (.ref M.length), some (.ref M1.length), p8, M', ?_, wM1.fr (n := M1.length) (by omega) f8⟩
  unfold bWay
  rw [exs_cons, s1, bnd_some, kSs_nx, exs_cons, s2, bnd_some, kSs_nx, exs_cons, s3, bnd_some, kSs_nx, exs_cons, ex_for, hr8, bnd_some, kFor_ap]
  dsimp only
  rw [h8, e8, bnd_some, kSs_nx, exs_nil]
  rfl
theorem turn41_ok (C : C41) (K : K41 P) (hd : ds.length ≤ line) (hw : WM ds M) {a0 o2 o3 o4 o5 o6 o7 o8 : Option D} {z : D} :
    ∃ p3 p4 p5 p6 p7 p8 M', forBody (cfA P 39) (.nm 2) bTurn41 z [a0, some (.ref 2), o2, o3, o4, o5, o6, o7, o8] M = some ((.nx, [a0, some (.ref 2), some z, p3, p4, p5, p6, p7, p8]), M') ∧ WM ds M' := by
  obtain ⟨rows, ws, M1, e1, w1, l1, l2⟩ := script_ok (k := 36) K.h6 K.h2 K.h3 hd hw
  have e1 : callAt P 39 6 [.ref 2] M = some (.tup [rwsD rows, .tup (wdsD ws)], M1) := e1
  have s1 : ex (cfA P 39) (.asg (.tg (.tp [(.nm 3), (.nm 4)])) (.call 6 (.cons (.var 1) .nil))) [a0, some (.ref 2), some z, o3, o4, o5, o6, o7, o8] M = some ((.nx, [a0, some (.ref 2), some z, some (rwsD rows), some (.tup (wdsD ws)), o5, o6, o7, o8]), M1) := by simp [e1]
  have hit : evIt (cfA P 39) (.ex (.tup (.cons (.cst (.str "again")) (.cons (.cst (.str "seldom")) (.cons (.cst (.str "once")) .nil))))) [a0, some (.ref 2), some z, some (rwsD rows), some (.tup (wdsD ws)), o5, o6, o7, o8] M1 = some (([.str "again", .str "seldom", .str "once"], none), M1) := evIt_ex (x := .v (.tup [.str "again", .str "seldom", .str "once"])) (by simp [line]) rfl
  obtain ⟨v', M', h5, w5, p5, p6, p7, p8, e5⟩ := for_ok (b := forBody (cfA P 39) (.nm 5) bWay) (g := none)
    (fun j v M' => WM ds M' ∧ ∃ p5 p6 p7 p8, v = [a0, some (.ref 2), some z, some (rwsD rows), some (.tup (wdsD ws)), p5, p6, p7, p8]) (fun _ _ _ _ => rfl)
    (ds := [.str "again", .str "seldom", .str "once"]) (j := 0) (v := [a0, some (.ref 2), some z, some (rwsD rows), some (.tup (wdsD ws)), o5, o6, o7, o8]) (M := M1) (fun j d v M' hd' ⟨w, p5, p6, p7, p8, e⟩ => by
      subst e
      obtain ⟨way, rfl⟩ : ∃ way : Way, d = .str way.str := by
        have := List.mem_of_getElem? hd'
        simp at this
        rcases this with rfl | rfl | rfl
        · exact ⟨.again, rfl⟩
        · exact ⟨.seldom, rfl⟩
        · exact ⟨.once, rfl⟩
      obtain ⟨q6, q7, q8, M3, g1, g2⟩ := way_ok (P := P) (rows := rows) (way := way) (ws := ws) C K (by omega) l2 w (a0 := a0) (a2 := some z) (o6 := p6) (o7 := p7) (o8 := p8)
      exact ⟨_, M3, .inl (by rw [forBody_ap]; simpa using g1), g2, some (.str way.str), q6, q7, q8, rfl⟩) ⟨w1, _, _, _, _, rfl⟩
  refine ⟨some (rwsD rows), some (.tup (wdsD ws)), p5, p6, p7, p8, M', ?_, w5⟩
  rw [forBody_ap, asgT_nm, if_pos (by simp)]
  show exs (cfA P 39) bTurn41 [a0, some (.ref 2), some z, o3, o4, o5, o6, o7, o8] M = _
  unfold bTurn41
  rw [exs_cons, s1, bnd_some, kSs_nx, exs_cons, ex_for, hit, bnd_some, kFor_ap]
  dsimp only
  rw [h5, e5, bnd_some, kSs_nx, exs_nil]
theorem law41 (C : C41) (K : K41 P) (h8 : P[8]? = some ⟨1, 9, bLaw41'⟩) (ns : List Int) (hn : ns.length ≤ 63) : ∃ M, callAt P 40 8 [.fz (ns.map .int)] [] = some (.bl true, M) := by
  obtain ⟨acc, ds, hd, hdl⟩ := draws_ok (k := 38) K.h1 (ns := ns) (many := 500) (by omega) (by omega)
  have hd : callAt P 39 1 [.fz (ns.map .int), .int 500] [] = some (.ref 1, [.lst (acc.map .int), .lst (ds.map .int)]) := hd
  have hds : ds.length ≤ line := by have : line = 16000000 := rfl; omega
  have s1 : ex (cfA P 39) (.asg (.tg (.nm 1)) (.dic false (.cons (.cst (.str "draws")) (.cons (.call 1 (.cons (.var 0) (.cons (.cst (.int 500)) .nil))) (.cons (.cst (.str "at")) (.cons (.cst (.int 0)) .nil)))))) [some (.fz (ns.map .int)), none, none, none, none, none, none, none, none] [] =
      some ((.nx, [some (.fz (ns.map .int)), some (.ref 2), none, none, none, none, none, none, none]), [.lst (acc.map .int), .lst (ds.map .int), wO 1 0]) := by
    have e : kDic false [.str "draws", .ref 1, .str "at", .int 0] [.lst (acc.map .int), .lst (ds.map .int)] = some (.v (.ref 2), [.lst (acc.map .int), .lst (ds.map .int), wO 1 0]) := by
      unfold kDic
      simp [pairUp, isKey, isKeyK, dmerge, dput, ne_at, wO]
    simp [hd, e]
  have hr : evIt (cfA P 39) (.rng (.cst (.int 0)) (.cst (.int 8))) [some (.fz (ns.map .int)), some (.ref 2), none, none, none, none, none, none, none] [.lst (acc.map .int), .lst (ds.map .int), wO 1 0] = some ((rangeD 0 8, none), [.lst (acc.map .int), .lst (ds.map .int), wO 1 0]) :=
    rng_ok (M1 := [.lst (acc.map .int), .lst (ds.map .int), wO 1 0]) (by simp) (by simp) (by omega)
  obtain ⟨v', M', h9, w9, p2, p3, p4, p5, p6, p7, p8, e9⟩ := for_ok (b := forBody (cfA P 39) (.nm 2) bTurn41) (g := none)
    (fun j v M => WM ds M ∧ ∃ p2 p3 p4 p5 p6 p7 p8, v = [some (.fz (ns.map .int)), some (.ref 2), p2, p3, p4, p5, p6, p7, p8]) (fun _ _ _ _ => rfl)
    (ds := rangeD 0 8) (j := 0) (v := [some (.fz (ns.map .int)), some (.ref 2), none, none, none, none, none, none, none]) (M := [.lst (acc.map .int), .lst (ds.map .int), wO 1 0])
    (fun i d v M hd' ⟨w, p2, p3, p4, p5, p6, p7, p8, e1⟩ => by
      subst e1
      obtain ⟨r3, r4, r5, r6, r7, r8, M', q, w'⟩ := turn41_ok C K hds w (a0 := some (.fz (ns.map .int))) (z := d) (o2 := p2) (o3 := p3) (o4 := p4) (o5 := p5) (o6 := p6) (o7 := p7) (o8 := p8)
      exact ⟨_, _, .inl q, w', some d, r3, r4, r5, r6, r7, r8, rfl⟩) ⟨⟨0, rfl, rfl⟩, _, _, _, _, _, _, _, rfl⟩
  subst e9
  have t0 : callAt P 39 0 [rwsD [5, 6], .tup (wdsD [.step, .fall, .step, .step]), .str Way.once.str] M' = some (.tup (prsD (outsW [5, 6] .once ws0 [.step, .fall, .step, .step])), M') := told_ok (k := 36) C K.h0 K.h9 K.h10 K.h11 (by decide) (by decide)
  have eo : outsW [5, 6] .once ws0 [.step, .fall, .step, .step] = [(0, 5), (1, 11)] := by decide
  rw [eo] at t0
  have t0 : callAt P 39 0 [.tup [.int 5, .int 6], .tup [.str "step", .str "fall", .str "step", .str "step"], .str "once"] M' = some (.tup [.tup [.int 0, .int 5], .tup [.int 1, .int 11]], M') := t0
  have al : callAt P 39 4 [.tup [.tup [.int 0, .int 5], .tup [.int 1, .int 11]], .tup [.tup [.int 0, .int 5], .tup [.int 1, .int 11]]] M' = some (.bl true, M') := alike_ok (k := 35) K.h4 3 _ M' (prs_fit (l := [(0, 5), (1, 11)]) (by decide))
  refine ⟨(fin [] (.bl true) M').2, ?_⟩
  have hf : fin [] (.bl true) M' = (.bl true, (fin [] (.bl true) M').2) := by
    unfold fin
    split <;> rfl
  show callAt P (39 + 1) 8 _ _ = _
  rw [call_eq h8 rfl]
  show bnd (exs (cfA P 39) bLaw41' [some (.fz (ns.map .int)), none, none, none, none, none, none, none, none] []) _ = _
  unfold bLaw41'
  rw [exs_cons, s1, bnd_some, kSs_nx, exs_cons, ex_for, hr, bnd_some, kFor_ap]
  dsimp only
  rw [h9, bnd_some, kSs_nx]
  have hl2 : (2 : Nat) ≤ line := by have : line = 16000000 := rfl; omega
  have hl4 : (4 : Nat) ≤ line := by have : line = 16000000 := rfl; omega
  simp [t0, al, hl2, hl4]
  exact hf
end
end Ev
namespace Ev
open PySem
/-! ### marks that are made -/
inductive Arr where
  | mk (t : Int) | rw (t a b : Int)
  deriving DecidableEq
def Arr.d : Arr → D
  | .mk t => .tup [.str "mark", .int t]
  | .rw t a b => .tup [.str "row", .int t, .tup [.int a, .int b]]
def Arr.t : Arr → Int
  | .mk t => t
  | .rw t _ _ => t
def Arr.isR : Arr → Bool
  | .mk _ => false
  | .rw _ _ _ => true
def arrD (l : List Arr) : List D := l.map Arr.d
/-- x is a mark behind which y comes too late -/
def late1 (x y : Arr) : Bool := !x.isR && decide (y.t < x.t)
/-- the arrivals in a: none of the first is broken by one of the later -/
def fairB : List Arr → List Arr → Bool
  | _, [] => true
  | a, y :: l => !(y.isR && a.any fun x => late1 x y) && fairB (a ++ [y]) l
def bFirst : Ss := (.cons (.for (.nm 1) (.rng (.cst (.int 0)) (.bi .len (.cons (.var 0) .nil))) (.cons (.ite (.op .eq (.ix (.ix (.var 0) (.var 1)) (.cst (.int 0))) (.cst (.str "row"))) (.cons (.for (.nm 2) (.rng (.cst (.int 0)) (.var 1)) (.cons (.ite (.and (.op .eq (.ix (.ix (.var 0) (.var 2)) (.cst (.int 0))) (.cst (.str "mark"))) (.op .lt (.ix (.ix (.var 0) (.var 1)) (.cst (.int 1))) (.ix (.ix (.var 0) (.var 2)) (.cst (.int 1))))) (.cons (.ret (.tup (.cons (.var 2) (.cons (.var 1) .nil)))) .nil) .nil) .nil)) .nil) .nil) .nil)) (.cons (.ret (.cst .non)) .nil))
def bFair (j : Nat) : Ss := (.cons (.ret (.op .is (.call j (.cons (.var 0) .nil)) (.cst .non))) .nil)
def bAlone : Ss := (.cons (.ret (.lc (.var 1) (.nm 1) (.ex (.var 0)) (.op .eq (.ix (.var 1) (.cst (.int 0))) (.cst (.str "row"))) [1])) .nil)
section
variable [Tab] {P : List FD} {i k n q : Nat} {cf : Cf} {v : Env} {M : Mem} {l : List Arr}
theorem lay_row : PyData.canLay0 (.str "row") = true := by rw [PyData.canLay0]; decide +kernel
theorem lay_mark : PyData.canLay0 (.str "mark") = true := by rw [PyData.canLay0]; decide +kernel
theorem eq_rr : op2 .eq (.v (.str "row")) (.v (.str "row")) M = some (.v (.bl true), M) := by rw [op2_eq_str lay_row lay_row]; rfl
theorem eq_mr : op2 .eq (.v (.str "mark")) (.v (.str "row")) M = some (.v (.bl false), M) := by rw [op2_eq_str lay_mark lay_row]; rfl
theorem eq_rm : op2 .eq (.v (.str "row")) (.v (.str "mark")) M = some (.v (.bl false), M) := by rw [op2_eq_str lay_row lay_mark]; rfl
theorem eq_mm : op2 .eq (.v (.str "mark")) (.v (.str "mark")) M = some (.v (.bl true), M) := by rw [op2_eq_str lay_mark lay_mark]; rfl
/-- a walk that may end early, and changes nothing -/
theorem for_find {b : D → Env → Mem → Option ((Fl × Env) × Mem)} {g : Option (Nat × MO)} (I : Env → Prop) (R : D → Prop) (hit : Nat → Bool) (hg : still M g = true) :
    ∀ {ds : List D} {j : Nat} {v : Env}, (∀ i d v, ds[i]? = some d → I v → (hit (j + i) = true → ∃ r v', b d v M = some ((.rt r, v'), M) ∧ R r) ∧ (hit (j + i) = false → ∃ v', b d v M = some ((.nx, v'), M) ∧ I v')) → I v →
    ((List.range ds.length).any (fun i => hit (j + i)) = true → ∃ r v', forL b g ds v M = some ((.rt r, v'), M) ∧ R r) ∧ ((List.range ds.length).any (fun i => hit (j + i)) = false → ∃ v', forL b g ds v M = some ((.nx, v'), M) ∧ I v')
  | [], j, v, hb, h => ⟨fun w => by simp at w, fun _ => ⟨v, forL_nilg hg, h⟩⟩
  | d :: ds, j, v, hb, h => by
    have h0 := hb 0 d v rfl h
    rw [Nat.add_zero] at h0
    have e : (List.range (d :: ds).length).any (fun i => hit (j + i)) = (hit j || (List.range ds.length).any (fun i => hit (j + 1 + i))) := by
      rw [List.length_cons, List.range_succ_eq_map, List.any_cons, List.any_map]
      congr 2
      funext i
      simp only [Function.comp]
      congr 1
      omega
    rw [e]
    cases hj : hit j with
    | true =>
      obtain ⟨r, v', e1, e2⟩ := h0.1 hj
      refine ⟨fun _ => ⟨r, v', ?_, e2⟩, fun w => by simp at w⟩
      rw [forL, if_pos hg, e1, bnd_some]
    | false =>
      obtain ⟨v', e1, e2⟩ := h0.2 hj
      have ih := for_find I R hit hg (ds := ds) (j := j + 1) (v := v') (fun i e v he hi => by
        have := hb (i + 1) e v (by simpa using he) hi
        rw [show j + (i + 1) = j + 1 + i by omega] at this
        exact this) e2
      rw [forL_consg hg e1, Bool.false_or]
      exact ih
theorem at_arr {z : Nat} {x : Arr} (h : l[z]? = some x) : L2.atI (arrD l) (z : Int) = some x.d := by
  rw [atI_nat, arrD, List.getElem?_map, h]
  rfl
/-- fair arrivals, by places -/
theorem fairB_at (a : List Arr) : ∀ l : List Arr, fairB a l = !((List.range l.length).any fun j => match l[j]? with
    | some y => y.isR && (a ++ l.take j).any fun x => late1 x y
    | none => false) := by
  intro l
  induction l generalizing a with
  | nil => rfl
  | cons y l ih =>
    rw [fairB, ih, List.length_cons, List.range_succ_eq_map, List.any_cons, List.any_map, Bool.not_or]
    congr 1
    · simp
    · congr 2
      funext j
      simp [Function.comp, List.append_assoc]
theorem any_take (f : Arr → Bool) (l : List Arr) (j : Nat) (hj : j ≤ l.length) : (l.take j).any f = (List.range j).any fun i => match l[i]? with
    | some x => f x
    | none => false := by
  rw [Bool.eq_iff_iff, List.any_eq_true, List.any_eq_true]
  constructor
  · rintro ⟨x, hx, h⟩
    obtain ⟨i, hi, rfl⟩ := List.mem_iff_getElem.mp hx
    rw [List.length_take] at hi
    refine ⟨i, List.mem_range.mpr (by omega), ?_⟩
    rw [List.getElem_take] at h
    rw [List.getElem?_eq_getElem (by omega)]
    exact h
  · rintro ⟨i, hi, h⟩
    have hi := List.mem_range.mp hi
    rw [List.getElem?_eq_getElem (by omega)] at h
    exact ⟨_, List.mem_iff_getElem.mpr ⟨i, by rw [List.length_take]; omega, by rw [List.getElem_take]⟩, h⟩
theorem first_ok (h : P[i]? = some ⟨1, 3, bFirst⟩) (hl : l.length ≤ 100000) : ∃ r, callAt P (k + 1) i [.tup (arrD l)] M = some (r, M) ∧ (decide (r = .non)) = fairB [] l := by
  rw [call_eq h rfl]
  have hr1 : evIt (cfA P k) (.rng (.cst (.int 0)) (.bi .len (.cons (.var 0) .nil))) [some (.tup (arrD l)), none, none] M = some ((rangeD 0 l.length, none), M) := rng_ok (M1 := M) (by simp) (by simp [arrD]) (by omega)
  have key := for_find (b := forBody (cfA P k) (.nm 1) (.cons (.ite (.op .eq (.ix (.ix (.var 0) (.var 1)) (.cst (.int 0))) (.cst (.str "row"))) (.cons (.for (.nm 2) (.rng (.cst (.int 0)) (.var 1)) (.cons (.ite (.and (.op .eq (.ix (.ix (.var 0) (.var 2)) (.cst (.int 0))) (.cst (.str "mark"))) (.op .lt (.ix (.ix (.var 0) (.var 1)) (.cst (.int 1))) (.ix (.ix (.var 0) (.var 2)) (.cst (.int 1))))) (.cons (.ret (.tup (.cons (.var 2) (.cons (.var 1) .nil)))) .nil) .nil) .nil)) .nil) .nil) .nil)) (g := none) (M := M)
    (fun v => ∃ o1 o2, v = [some (.tup (arrD l)), o1, o2]) (fun r => r ≠ .non) (fun j => match l[j]? with
      | some y => y.isR && (([] : List Arr) ++ l.take j).any fun x => late1 x y
      | none => false) rfl (ds := rangeD 0 l.length) (j := 0) (v := [some (.tup (arrD l)), none, none]) (fun j d v hd ⟨o1, o2, e⟩ => by
    subst e
    obtain ⟨rfl, hj⟩ := rangeD_at hd
    have hjl : j < l.length := by omega
    have hy : l[j]? = some l[j] := List.getElem?_eq_getElem hjl
    rw [Nat.zero_add, Int.zero_add, hy, List.nil_append]
    generalize l[j] = y at hy
    have hay := at_arr hy
    rw [forBody_ap]
    cases y with
    | mk t =>
      refine ⟨fun w => by simp [Arr.isR] at w, fun _ => ⟨[some (.tup (arrD l)), some (.int j), o2], ?_, _, _, rfl⟩⟩
      simp [hay, Arr.d, at_zero, eq_mr]
    | rw t a b =>
      have hr2 : evIt (cfA P k) (.rng (.cst (.int 0)) (.var 1)) [some (.tup (arrD l)), some (.int j), o2] M = some ((rangeD 0 j, none), M) := rng_ok (M1 := M) (by simp) (by simp) (by omega)
      have inner := for_find (b := forBody (cfA P k) (.nm 2) (.cons (.ite (.and (.op .eq (.ix (.ix (.var 0) (.var 2)) (.cst (.int 0))) (.cst (.str "mark"))) (.op .lt (.ix (.ix (.var 0) (.var 1)) (.cst (.int 1))) (.ix (.ix (.var 0) (.var 2)) (.cst (.int 1))))) (.cons (.ret (.tup (.cons (.var 2) (.cons (.var 1) .nil)))) .nil) .nil) .nil)) (g := none) (M := M)
        (fun v => ∃ o2, v = [some (.tup (arrD l)), some (.int j), o2]) (fun r => r ≠ .non) (fun i => match l[i]? with
          | some x => late1 x (.rw t a b)
          | none => false) rfl (ds := rangeD 0 j) (j := 0) (v := [some (.tup (arrD l)), some (.int j), o2]) (fun i d v hd ⟨o2, e⟩ => by
        subst e
        obtain ⟨rfl, hi⟩ := rangeD_at hd
        have hil : i < l.length := by omega
        have hx : l[i]? = some l[i] := List.getElem?_eq_getElem hil
        rw [Nat.zero_add, Int.zero_add, hx]
        generalize l[i] = x at hx
        have hax := at_arr hx
        have hline : (2 : Nat) ≤ line := by have : line = 16000000 := rfl; omega
        rw [forBody_ap]
        cases x with
        | rw t' a' b' =>
          refine ⟨fun w => by simp [late1, Arr.isR] at w, fun _ => ⟨[some (.tup (arrD l)), some (.int j), some (.int i)], ?_, _, rfl⟩⟩
          simp [hax, Arr.d, at3_0, eq_rm]
        | mk t' =>
          refine ⟨fun w => ⟨.tup [.int i, .int j], [some (.tup (arrD l)), some (.int j), some (.int i)], ?_, by simp⟩, fun w => ⟨[some (.tup (arrD l)), some (.int j), some (.int i)], ?_, _, rfl⟩⟩
          · have hlt : t < t' := of_decide_eq_true (show decide (t < t') = true from w)
            simp [hax, hay, Arr.d, at_zero, at_one, at3_1, eq_mm, hlt, hline]
          · have hlt : ¬ t < t' := of_decide_eq_false (show decide (t < t') = false from w)
            simp [hax, hay, Arr.d, at_zero, at_one, at3_1, eq_mm, hlt]) ⟨_, rfl⟩
      rw [rangeD_len, show ((j : Int) - 0).toNat = j by omega] at inner
      have ea := any_take (fun x => late1 x (.rw t a b)) l j (by omega)
      simp only [Nat.zero_add] at inner
      dsimp only [Arr.isR]
      rw [Bool.true_and, ea]
      refine ⟨fun w => ?_, fun w => ?_⟩
      · obtain ⟨r, v', e1, e2⟩ := inner.1 (by simpa [Arr.isR] using w)
        refine ⟨r, v', ?_, e2⟩
        simp [hay, Arr.d, at3_0, eq_rr, hr2, e1]
      · obtain ⟨v', e1, o2', e2⟩ := inner.2 (by simpa [Arr.isR] using w)
        refine ⟨v', ?_, _, _, e2⟩
        simp [hay, Arr.d, at3_0, eq_rr, hr2, e1]) ⟨_, _, rfl⟩
  rw [rangeD_len, show ((l.length : Int) - 0).toNat = l.length by omega] at key
  simp only [Nat.zero_add] at key
  rw [fairB_at]
  cases hany : (List.range l.length).any fun j => match l[j]? with
      | some y => y.isR && (([] : List Arr) ++ l.take j).any fun x => late1 x y
      | none => false with
  | true =>
    obtain ⟨r, v', e1, e2⟩ := key.1 hany
    refine ⟨r, ?_, by simp [e2]⟩
    simp [bFirst, hr1, e1, fin_self]
  | false =>
    obtain ⟨v', e1, _⟩ := key.2 hany
    refine ⟨.non, ?_, rfl⟩
    simp [bFirst, hr1, e1, fin_self]
theorem fair_ok {j : Nat} (h : P[i]? = some ⟨1, 1, bFair j⟩) (hf : P[j]? = some ⟨1, 3, bFirst⟩) (hl : l.length ≤ 100000) : callAt P (k + 2) i [.tup (arrD l)] M = some (.bl (fairB [] l), M) := by
  rw [call_eq h rfl]
  obtain ⟨r, e1, e2⟩ := first_ok (k := k) (M := M) hf hl
  simp [bFair, e1, e2, fin_self]
end
end Ev
namespace Ev
open PySem
/-- a law that begins with its draws and takes so many turns -/
def bLawG (id many turns : Nat) (bT : Ss) : Ss := (.cons (.asg (.tg (.nm 1)) (.dic false (.cons (.cst (.str "draws")) (.cons (.call id (.cons (.var 0) (.cons (.cst (.int many)) .nil))) (.cons (.cst (.str "at")) (.cons (.cst (.int 0)) .nil)))))) (.cons (.for (.nm 2) (.rng (.cst (.int 0)) (.cst (.int turns))) bT) (.cons (.ret (.cst (.bl true))) .nil)))
section
variable [Tab] {P : List FD}
theorem law_gen {id iL N many turns : Nat} {bT : Ss} (hd : P[id]? = some ⟨2, 8, bDraws⟩) (hl : P[iL]? = some ⟨1, N + 2, bLawG id many turns bT⟩) (hm : many ≤ 100000) (hT : turns ≤ 1000) (I : D → Env → Prop) (h0 : ∀ s, I s (some s :: some (.ref 2) :: List.replicate N none))
    (ht : ∀ s ds M d v, ds.length = many → WM ds M → I s v → ∃ v' M', forBody (cfA P 39) (.nm 2) bT d v M = some ((.nx, v'), M') ∧ I s v' ∧ WM ds M') (ns : List Int) (hn : ns.length ≤ 63) :
    ∃ M, callAt P 40 iL [.fz (ns.map .int)] [] = some (.bl true, M) := by
  obtain ⟨acc, ds, hd, hdl⟩ := draws_ok (k := 38) hd (ns := ns) (many := many) (by omega) (by omega)
  have hd : callAt P 39 id [.fz (ns.map .int), .int many] [] = some (.ref 1, [.lst (acc.map .int), .lst (ds.map .int)]) := hd
  have s1 : ex (cfA P 39) (.asg (.tg (.nm 1)) (.dic false (.cons (.cst (.str "draws")) (.cons (.call id (.cons (.var 0) (.cons (.cst (.int many)) .nil))) (.cons (.cst (.str "at")) (.cons (.cst (.int 0)) .nil)))))) (some (.fz (ns.map .int)) :: none :: List.replicate N none) [] =
      some ((.nx, some (.fz (ns.map .int)) :: some (.ref 2) :: List.replicate N none), [.lst (acc.map .int), .lst (ds.map .int), wO 1 0]) := by
    have e : kDic false [.str "draws", .ref 1, .str "at", .int 0] [.lst (acc.map .int), .lst (ds.map .int)] = some (.v (.ref 2), [.lst (acc.map .int), .lst (ds.map .int), wO 1 0]) := by
      unfold kDic
      simp [pairUp, isKey, isKeyK, dmerge, dput, ne_at, wO]
    simp [hd, e]
  have hr : evIt (cfA P 39) (.rng (.cst (.int 0)) (.cst (.int turns))) (some (.fz (ns.map .int)) :: some (.ref 2) :: List.replicate N none) [.lst (acc.map .int), .lst (ds.map .int), wO 1 0] = some ((rangeD 0 turns, none), [.lst (acc.map .int), .lst (ds.map .int), wO 1 0]) :=
    rng_ok (M1 := [.lst (acc.map .int), .lst (ds.map .int), wO 1 0]) (by simp) (by simp) (by omega)
  obtain ⟨v', M', h9, w9, i9⟩ := for_ok (b := forBody (cfA P 39) (.nm 2) bT) (g := none)
    (fun j v M => WM ds M ∧ I (.fz (ns.map .int)) v) (fun _ _ _ _ => rfl)
    (ds := rangeD 0 turns) (j := 0) (v := some (.fz (ns.map .int)) :: some (.ref 2) :: List.replicate N none) (M := [.lst (acc.map .int), .lst (ds.map .int), wO 1 0])
    (fun i d v M hd' ⟨w, hi⟩ => by
      obtain ⟨v', M', q, hi', w'⟩ := ht _ ds M d v hdl w hi
      exact ⟨v', M', .inl q, w', hi'⟩) ⟨⟨0, rfl, rfl⟩, h0 _⟩
  refine ⟨(fin [] (.bl true) M').2, ?_⟩
  have hf : fin [] (.bl true) M' = (.bl true, (fin [] (.bl true) M').2) := by
    unfold fin
    split <;> rfl
  show callAt P (39 + 1) iL _ _ = _
  rw [call_eq hl rfl, show N + 2 - 1 = N + 1 from rfl, List.replicate_succ]
  show bnd (exs (cfA P 39) (bLawG id many turns bT) (some (.fz (ns.map .int)) :: none :: List.replicate N none) []) _ = _
  unfold bLawG
  rw [exs_cons, s1, bnd_some, kSs_nx, exs_cons, ex_for, hr, bnd_some, kFor_ap]
  dsimp only
  rw [h9, bnd_some, kSs_nx, exs_cons, ex_ret, evD_eq, ev_cst, bnd_some, toD_v, bnd_some, kD1_ap, bnd_some, kSs_rt, bnd_some, kFin_rt, hf]
end
end Ev
namespace Ev
open PySem
/-! ### data that compares: how deep it is -/
structure Sh (n : Nat) (d : D) : Prop where
  p : d.pure = true
  c : d.py.canLay0 = true
  t : d.py.depth ≤ n
theorem Sh.int (n : Nat) (i : Int) : Sh n (.int i) := ⟨rfl, by simp [D.py, PyData.canLay0], by simp [D.py, PyData.depth]⟩
theorem Sh.bl (n : Nat) (i : Bool) : Sh n (.bl i) := ⟨rfl, by simp [D.py, PyData.canLay0], by simp [D.py, PyData.depth]⟩
theorem Sh.non (n : Nat) : Sh n .non := ⟨rfl, by simp [D.py, PyData.canLay0], by simp [D.py, PyData.depth]⟩
theorem shs {n : Nat} : ∀ {ds : List D}, (∀ d ∈ ds, Sh n d) → D.pures ds = true ∧ PyData.canLayAll0 (D.pys ds) = true ∧ PyData.depthAll (D.pys ds) ≤ n
  | [], _ => ⟨rfl, by simp [D.pys, PyData.canLayAll0], by simp [D.pys, PyData.depthAll]⟩
  | d :: ds, h => by
    obtain ⟨h1, h2, h3⟩ := shs fun e he => h e (List.mem_cons_of_mem _ he)
    obtain ⟨g1, g2, g3⟩ := h d List.mem_cons_self
    refine ⟨by rw [D.pures, g1, h1]; rfl, by rw [D.pys, PyData.canLayAll0, g2, h2]; rfl, ?_⟩
    rw [D.pys, PyData.depthAll]
    omega
theorem Sh.tup {n : Nat} {ds : List D} (h : ∀ d ∈ ds, Sh n d) : Sh (n + 1) (.tup ds) := by
  obtain ⟨h1, h2, h3⟩ := shs h
  exact ⟨h1, by rw [D.py, PyData.canLay0]; exact h2, by rw [D.py, PyData.depth]; omega⟩
theorem Sh.up {n m : Nat} {d : D} (h : Sh n d) (l : n ≤ m) : Sh m d := ⟨h.p, h.c, Nat.le_trans h.t l⟩
theorem Sh.shaped {n : Nat} {d : D} (h : Sh n d) (l : n ≤ 64) : SeqAt.shaped d.py = true := by
  unfold SeqAt.shaped
  rw [h.c, Bool.true_and]
  exact decide_eq_true (Nat.le_trans h.t l)
theorem shaped_list {n : Nat} {ds : List D} (h : ∀ d ∈ ds, Sh n d) (l : n + 1 ≤ 64) : SeqAt.shaped (.list (D.pys ds)) = true := by
  obtain ⟨h1, h2, h3⟩ := shs h
  unfold SeqAt.shaped
  rw [PyData.canLay0, h2, Bool.true_and, PyData.depth]
  exact decide_eq_true (by omega)
section
variable [Tab] {M : Mem} {n : Nat}
theorem eqA_sh {a b : D} (ha : Sh n a) (hb : Sh n b) (l : n ≤ 64) (na : ∀ q, a ≠ .ref q) (nb : ∀ q, b ≠ .ref q) : eqA M (.v a) (.v b) = some (PyData.eqv a.py b.py) := by
  have p : ∀ {d : D}, Sh n d → (∀ q, d ≠ .ref q) → pyOf M (.v d) = some d.py := fun {d} h hn => by
    cases d <;> first | exact (hn _ rfl).elim | (unfold pyOf; simp only [h.p, if_true])
  unfold eqA
  rw [p ha na, p hb nb]
  dsimp only
  rw [ha.shaped l, hb.shaped l]
  rfl
theorem eqA_l0 {ds : List D} (h : ∀ d ∈ ds, Sh n d) (l : n + 1 ≤ 64) : eqA M (.l ds) (.l []) = some ds.isEmpty := by
  obtain ⟨h1, _⟩ := shs h
  have e1 : pyOf M (.l ds) = some (.list (D.pys ds)) := if_pos h1
  have e2 : pyOf M (.l []) = some (.list []) := rfl
  unfold eqA
  rw [e1, e2]
  dsimp only
  have s0 : SeqAt.shaped (.list []) = true := by
    unfold SeqAt.shaped
    simp [PyData.canLay0, PyData.canLayAll0, PyData.depth, PyData.depthAll]
  rw [shaped_list h l, s0]
  cases ds <;> simp [D.pys, PyData.eqv, PyData.eqvAll]
theorem eqA_ref0 {q : Nat} {ds : List D} (hq : M[q]? = some (.lst ds)) : eqA M (.v (.ref q)) (.l []) = eqA M (.l ds) (.l []) := by
  have e1 : pyOf M (.v (.ref q)) = pyOf M (.l ds) := by unfold pyOf; simp only [hq]
  have e2 : emp M (.v (.ref q)) (.l []) = emp M (.l ds) (.l []) := by unfold emp; simp only [hq]
  unfold eqA
  rw [e1, e2]
theorem op_eq {a b : A} {c : Bool} (h : eqA M a b = some c) : op2 .eq a b M = some (.v (.bl c), M) := by
  unfold op2
  dsimp only
  rw [h]
  rfl
theorem op_ne {a b : A} {c : Bool} (h : eqA M a b = some c) : op2 .ne a b M = some (.v (.bl (!c)), M) := by
  unfold op2
  dsimp only
  rw [h]
  rfl
end
def qD (p : Int × Int) : D := .tup [.int p.1, .int p.2]
theorem qD_sh (p : Int × Int) : Sh 1 (qD p) := Sh.tup fun d hd => by
  simp at hd
  rcases hd with rfl | rfl <;> exact Sh.int _ _
theorem eqvAll_q : ∀ a b : List (Int × Int), PyData.eqvAll (D.pys (a.map qD)) (D.pys (b.map qD)) = decide (a = b)
  | [], [] => by simp [D.pys, PyData.eqvAll]
  | [], _ :: _ => by simp [D.pys, PyData.eqvAll]
  | _ :: _, [] => by simp [D.pys, PyData.eqvAll]
  | x :: a, y :: b => by
    rw [List.map_cons, List.map_cons, D.pys, D.pys, PyData.eqvAll, eqvAll_q a b]
    have : PyData.eqv (qD x).py (qD y).py = decide (x = y) := by
      obtain ⟨x1, x2⟩ := x
      obtain ⟨y1, y2⟩ := y
      by_cases h1 : x1 = y1
      · by_cases h2 : x2 = y2
        · simp [qD, D.py, D.pys, PyData.eqv, PyData.eqvAll, h1, h2]
        · simp [qD, D.py, D.pys, PyData.eqv, PyData.eqvAll, h1, h2]
      · simp [qD, D.py, D.pys, PyData.eqv, PyData.eqvAll, h1]
    rw [this]
    by_cases h1 : x = y
    · by_cases h2 : a = b
      · simp [h1, h2]
      · simp [h1, h2]
    · simp [h1]
section
variable [Tab] {M : Mem}
theorem eq_qs (a b : List (Int × Int)) : op2 .eq (.v (.tup (a.map qD))) (.v (.tup (b.map qD))) M = some (.v (.bl (decide (a = b))), M) := by
  have s : ∀ l : List (Int × Int), Sh 2 (.tup (l.map qD)) := fun l => Sh.tup fun d hd => by
    obtain ⟨p, _, rfl⟩ := List.mem_map.mp hd
    exact qD_sh p
  refine op_eq ((eqA_sh (s a) (s b) (by omega) (fun q h => nomatch h) (fun q h => nomatch h)).trans ?_)
  rw [← eqvAll_q a b]
  simp [D.py, PyData.eqv]
end
theorem cut_hi2 [Tab] (ds : List D) (n : Nat) : cutD ds none (some (n : Int)) = ds.take n := by
  by_cases h : n ≤ ds.length
  · exact cut_hi h
  · rw [List.take_of_length_le (by omega)]
    unfold cutD
    have e1 : HT.sIx ds.length 0 none = 0 := rfl
    have e2 : HT.sIx ds.length ds.length (some (n : Int)) = ds.length := by
      rw [HT.sIx_nat]
      omega
    rw [e1, e2, List.drop_zero, Nat.sub_zero, List.take_length]
theorem cut_lo [Tab] (ds : List D) (n : Nat) : cutD ds (some (n : Int)) none = ds.drop n := by
  unfold cutD
  have e1 : HT.sIx ds.length 0 (some (n : Int)) = min n ds.length := HT.sIx_nat _ _ _
  have e2 : HT.sIx ds.length ds.length none = ds.length := rfl
  rw [e1, e2]
  by_cases h : n ≤ ds.length
  · rw [Nat.min_eq_left h]
    exact List.take_of_length_le (by rw [List.length_drop]; omega)
  · rw [Nat.min_eq_right (by omega), List.drop_of_length_le (by omega), List.drop_of_length_le (by omega)]
    simp
end Ev
namespace Ev
open PySem
/-! ### values that are bent, for any law -/
def LsAt (M : Mem) (q : Nat) : Prop := ∃ ds, M[q]? = some (.lst ds)
structure Gm (ds : List Int) (M M' : Mem) : Prop where
  w : WM ds M'
  l : M.length ≤ M'.length
  s : ∀ i, i ≠ 2 → i < M.length → M'[i]? = M[i]?
def Dur (G : Mem → D → Prop) : Prop := ∀ M n d, G M d → d.lo n = true → G (M.take n) d
theorem ls_take {M : Mem} {n q : Nat} (h : LsAt M q) (hq : q < n) : LsAt (M.take n) q := by
  obtain ⟨ds, e⟩ := h
  exact ⟨ds, by rw [List.getElem?_take_of_lt hq]; exact e⟩
theorem LsAt.app {M : Mem} {q : Nat} (h : LsAt M q) (X : Mem) : LsAt (M ++ X) q := by
  obtain ⟨ds, e⟩ := h
  exact ⟨ds, by rw [List.getElem?_append_left (List.getElem?_eq_some_iff.mp e).1]; exact e⟩
theorem lo_r {n q : Nat} (h : (D.ref q).lo n = true) : q < n := of_decide_eq_true h
theorem los_m {n : Nat} : ∀ {l : List D}, D.los n l = true → ∀ z ∈ l, z.lo n = true
  | [], _, z, h => nomatch h
  | d :: l, h, z, hz => by
    have h : (d.lo n && D.los n l) = true := h
    rw [Bool.and_eq_true] at h
    rcases List.mem_cons.mp hz with rfl | hz
    · exact h.1
    · exact los_m h.2 z hz
theorem cut_pre (ds : List D) (o : Option Int) : ∃ z, cutD ds none o = ds.take z := by
  refine ⟨HT.sIx ds.length ds.length o, ?_⟩
  unfold cutD
  have e1 : HT.sIx ds.length 0 none = 0 := rfl
  rw [e1, List.drop_zero, Nat.sub_zero]
theorem fin_two (M : Mem) (d : D) (M' : Mem) : fin M d M' = (d, M') ∨ (fin M d M' = (d, M'.take M.length) ∧ d.lo M.length = true) := by
  unfold fin
  split
  · rename_i h
    rw [Bool.and_eq_true] at h
    exact .inr ⟨rfl, h.1⟩
  · exact .inl rfl
section
variable [Tab] {P : List FD} {i k n q : Nat} {cf : Cf} {v : Env} {M M' M'' : Mem} {ds : List Int}
theorem Gm.rfl' (h : WM ds M) : Gm ds M M := ⟨h, Nat.le_refl _, fun _ _ _ => rfl⟩
theorem Gm.trans (a : Gm ds M M') (b : Gm ds M' M'') : Gm ds M M'' := ⟨b.w, Nat.le_trans a.l b.l, fun i h hi => (b.s i h (Nat.lt_of_lt_of_le hi a.l)).trans (a.s i h hi)⟩
theorem Gm.app (h : WM ds M) (X : Mem) : Gm ds M (M ++ X) := ⟨h.app X, by rw [List.length_append]; omega, fun i _ hi => List.getElem?_append_left hi⟩
theorem wm2 (h : WM ds M) : 2 < M.length := by
  obtain ⟨n, h1, _⟩ := h
  exact (List.getElem?_eq_some_iff.mp h1).1
theorem LsAt.gm {q : Nat} (h : LsAt M q) (g : Gm ds M M') (hw : WM ds M) : LsAt M' q := by
  obtain ⟨l, e⟩ := h
  refine ⟨l, ?_⟩
  have hq : q ≠ 2 := fun x => by
    subst x
    obtain ⟨n, h1, _⟩ := hw
    rw [h1] at e; cases e
  rw [g.s q hq (List.getElem?_eq_some_iff.mp e).1]; exact e
/-- a call's end: what it gives and the memory that stays -/
theorem fin_gm {G : Mem → D → Prop} (pG : Dur G) {d : D} (hw : WM ds M) (g : Gm ds M M') (h : G M' d) : ∃ X, fin M d M' = (d, X) ∧ G X d ∧ Gm ds M X := by
  rcases fin_two M d M' with e | ⟨e, hl⟩
  · exact ⟨M', e, h, g⟩
  · refine ⟨_, e, pG _ _ _ h hl, ?_, by rw [List.length_take]; have := g.l; omega, fun i h2 hi => by rw [List.getElem?_take_of_lt hi]; exact g.s i h2 hi⟩
    have h2 := wm2 hw
    obtain ⟨n, h1, h3⟩ := g.w
    exact ⟨n, by rw [List.getElem?_take_of_lt h2]; exact h1, by rw [List.getElem?_take_of_lt (by omega)]; exact h3⟩
theorem next_m {j : Nat} (hn : P[j]? = some ⟨2, 2, bNext⟩) (hd : ds.length ≤ line) (h : WM ds M) {m : Int} (hm : 0 < m) : ∃ (c : Nat) (M' : Mem), callAt P (k + 1) j [.ref 2, .int m] M = some (.int c, M') ∧ (c : Int) < m ∧ Gm ds M M' ∧ M'.length = M.length := by
  obtain ⟨n, h1, h2⟩ := id h
  have e := next_ok (k := k) hn h1 h2 hm hd
  obtain ⟨b1, b2⟩ := nxt_lt (ds := ds) (n := n) hm
  refine ⟨(nxt ds n m).toNat, _, ?_, by omega, ⟨h.set (n + 1), by simp, fun i hi _ => List.getElem?_set_ne (Ne.symm hi)⟩, by simp⟩
  rw [e, show (((nxt ds n m).toNat : Nat) : Int) = nxt ds n m by omega]
theorem pick_m {jn : Nat} (h : P[i]? = some ⟨2, 2, bPick jn⟩) (hn : P[jn]? = some ⟨2, 2, bNext⟩) (hd : ds.length ≤ line) (hw : WM ds M) {xs : List D} (hq : M[q]? = some (.lst xs)) (hx : xs ≠ []) (hp : D.los M.length xs = true) :
    ∃ x M', callAt P (k + 2) i [.ref 2, .ref q] M = some (x, M') ∧ x ∈ xs ∧ Gm ds M M' ∧ M'.length = M.length := by
  obtain ⟨n, h1, h2⟩ := id hw
  obtain ⟨x, hx1, hx2⟩ := pick_ref (k := k) h hn h1 h2 hq hx hp hd
  exact ⟨x, _, hx2, List.mem_of_getElem? hx1, ⟨hw.set _, by simp, fun i hi _ => List.getElem?_set_ne (Ne.symm hi)⟩, by simp⟩
def gGo (jn : Nat) (m : Int) : E := (.and (.isi (.var 1) .tuple) (.and (.op .ne (.var 1) (.tup .nil)) (.and (.op .gt (.var 2) (.cst (.int 0))) (.op .gt (.call jn (.cons (.var 0) (.cons (.cst (.int m)) .nil))) (.cst (.int 0))))))
def gS1 (jn : Nat) : S := (.asg (.tg (.nm 3)) (.call jn (.cons (.var 0) (.cons (.bi .len (.cons (.var 1) .nil)) .nil))))
def gE1 : E := (.sl (.var 1) (.cst .non) (.op .sub (.var 3) (.cst (.int 0))))
def gE2 (js : Nat) : E := (.tup (.cons (.call js (.cons (.var 0) (.cons (.ix (.var 1) (.var 3)) (.cons (.op .sub (.var 2) (.cst (.int 1))) .nil)))) .nil))
def gE3 : E := (.sl (.var 1) (.op .sub (.op .add (.var 3) (.cst (.int 1))) (.cst (.int 0))) (.cst .non))
def gRet (jp : Nat) (es : Es) : S := (.ret (.call jp (.cons (.var 0) (.cons (.lst es) .nil))))
def bBentG (jn js : Nat) (m : Int) (rest : Ss) : Ss := (.cons (.ite (gGo jn m) (.cons (gS1 jn) (.cons (.ret (.op .add (.op .add gE1 (gE2 js)) gE3)) .nil)) .nil) rest)
theorem ret_pick {jp : Nat} {es : Es} {r : Ss} {xs : List D} {M1 : Mem} (h0 : v[0]? = some (some (.ref 2))) (he : ev cf (.lst es) v M = some (.l xs, M1)) {x : D} (hp : cf.call jp [.ref 2, .ref M1.length] (M1 ++ [MO.lst xs]) = some (x, M')) : exs cf (.cons (gRet jp es) r) v M = some ((.rt x, v), M') := by
  unfold gRet
  rw [exs_cons, ex_ret, evD_eq, ev_call, evs_cons, ev_var]
  simp only [h0, bnd_some, kCons_ap, toD_v, kCons1_ap, evs_cons, he, toD_l, evs_nil, kCons2_ap, kCall_ap, hp, kV_ap, kD1_ap, kSs_rt]
theorem nil_ne' {s : Nat} (hs : s ≤ 64) {l : List D} (h : Sh s (.tup l)) : op2 .ne (.v (.tup l)) (.v (.tup [])) M = some (.v (.bl (!l.isEmpty)), M) := by
  have s0 : Sh s (.tup []) := by
    cases s with
    | zero =>
      have := h.t
      rw [D.py, PyData.depth] at this
      omega
    | succ s => exact Sh.tup fun d hd => nomatch hd
  have e := eqA_sh (M := M) h s0 hs (fun q h => nomatch h) (fun q h => nomatch h)
  have e2 : PyData.eqv (D.tup l).py (D.tup []).py = l.isEmpty := by
    cases l with
    | nil => simp [D.py, D.pys, PyData.eqv, PyData.eqvAll]
    | cons a l => simp [D.py, D.pys, PyData.eqv, PyData.eqvAll]
  rw [e2] at e
  exact op_ne e
/-- tuples, one part of which may be bent -/
theorem bent_g {jn jp js : Nat} {m : Int} {rest : Ss} {alts : Es} (h10 : P[jn]? = some ⟨2, 2, bNext⟩) (h11 : P[jp]? = some ⟨2, 2, bPick jn⟩) (h18 : P[js]? = some ⟨3, 4, bBentG jn js m rest⟩) (hm : 0 < m) (hd : ds.length ≤ line) (hw : WM ds M) {l : List D} {s : Nat} (hs : s ≤ 64) (hsh : Sh s (.tup l)) (hl : l.length ≤ 1000) {z : Int} (hz : 0 < z)
    {G : Mem → D → Prop} (pG : Dur G) (Sub : D → Mem → D → Prop) (hT : ∀ M c x e, l[c]? = some x → Sub x M e → G M (.tup (l.take c ++ [e] ++ l.drop (c + 1)))) (hR : ∀ M q, LsAt M q → G M (.ref q))
    (xs : List D) (hxs : ∀ x ∈ xs, x.pure = true ∧ ∀ M, G M x) (hrest : ∀ M1, exs (cfA P (k + 2)) rest [some (.ref 2), some (.tup l), some (.int z), none] M1 = exs (cfA P (k + 2)) (.cons (gRet jp alts) .nil) [some (.ref 2), some (.tup l), some (.int z), none] M1)
    (halt : ∀ M1, ev (cfA P (k + 2)) (.lst alts) [some (.ref 2), some (.tup l), some (.int z), none] M1 = some (.l (.ref M1.length :: xs), M1 ++ [MO.lst l]))
    (hrec : ∀ x ∈ l, ∀ M, WM ds M → ∃ e M', callAt P (k + 2) js [.ref 2, x, .int (z - 1)] M = some (e, M') ∧ Sub x M' e ∧ Gm ds M M') :
    ∃ x M', callAt P (k + 3) js [.ref 2, .tup l, .int z] M = some (x, M') ∧ G M' x ∧ Gm ds M M' := by
  have hline : line = 16000000 := rfl
  have run : ∀ x M1 v', exs (cfA P (k + 2)) (bBentG jn js m rest) [some (.ref 2), some (.tup l), some (.int z), none] M = some ((.rt x, v'), M1) → Gm ds M M1 → G M1 x → ∃ x M', callAt P (k + 3) js [.ref 2, .tup l, .int z] M = some (x, M') ∧ G M' x ∧ Gm ds M M' := by
    intro x M1 v' he g h
    obtain ⟨X, e, a, g⟩ := fin_gm pG hw g h
    refine ⟨x, X, ?_, a, g⟩
    rw [call_eq h18 rfl]
    show bnd (exs (cfA P (k + 2)) (bBentG jn js m rest) [some (.ref 2), some (.tup l), some (.int z), none] M) _ = _
    rw [he, bnd_some, kFin_rt, e]
  have last : ∀ M1, Gm ds M M1 → evB (cfA P (k + 2)) (gGo jn m) [some (.ref 2), some (.tup l), some (.int z), none] M = some (false, M1) → ∃ x M', callAt P (k + 3) js [.ref 2, .tup l, .int z] M = some (x, M') ∧ G M' x ∧ Gm ds M M' := by
    intro M1 g1 t1
    have g2 := Gm.app g1.w [MO.lst l]
    have g3 := g2.trans (Gm.app g2.w [MO.lst (.ref M1.length :: xs)])
    obtain ⟨x, M3, p1, px, g4, l4⟩ := pick_m (k := k) (q := (M1 ++ [MO.lst l]).length) h11 h10 hd g3.w (at_last _) (by simp) (by
      have hp : D.los (M1 ++ [MO.lst l] ++ [MO.lst (.ref M1.length :: xs)]).length xs = true := pures_los _ _ (pures_iff.mpr fun d hd => (hxs d hd).1)
      show ((D.ref M1.length).lo _ && D.los _ xs) = true
      rw [hp, Bool.and_true]
      simp [D.lo])
    have g5 := g1.trans (g3.trans g4)
    refine run x M3 [some (.ref 2), some (.tup l), some (.int z), none] ?_ g5 ?_
    · unfold bBentG
      rw [exs_cons, ex_ite, t1, bnd_some, kIteS_ap, if_neg (by decide), exs_nil, bnd_some, kSs_nx, hrest M1]
      exact ret_pick rfl (halt M1) p1
    · rcases List.mem_cons.mp px with rfl | px
      · refine hR _ _ ⟨l, ?_⟩
        have h2 := wm2 g1.w
        rw [g4.s _ (by omega) (by simp), List.append_assoc, List.getElem?_append_right (Nat.le_refl _), Nat.sub_self]
        rfl
      · exact (hxs x px).2 _
  have hne := fun M => nil_ne' (M := M) hs hsh
  by_cases hl0 : l = []
  · subst hl0
    refine last M (Gm.rfl' hw) ?_
    have hne : op2 .ne (.v (.tup [])) (.v (.tup [])) M = some (.v (.bl false), M) := hne M
    unfold gGo
    simp [hne]
  · have hne : ∀ M, op2 .ne (.v (.tup l)) (.v (.tup [])) M = some (.v (.bl true), M) := fun M => by
      rw [hne M]
      cases l with
      | nil => exact (hl0 rfl).elim
      | cons a l => rfl
    obtain ⟨c0, M1, n1, b1, g1, l1⟩ := next_m (k := k + 1) h10 hd hw hm
    have n1 : callAt P (k + 2) jn [.ref 2, .int m] M = some (.int c0, M1) := n1
    have t1 : evB (cfA P (k + 2)) (gGo jn m) [some (.ref 2), some (.tup l), some (.int z), none] M = some (decide (0 < (c0 : Int)), M1) := by
      unfold gGo
      simp [hne, hz, n1]
    by_cases hc0 : c0 = 0
    · exact last M1 g1 (by rw [t1]; simp [hc0])
    · have hc0' : decide (0 < (c0 : Int)) = true := decide_eq_true (by omega)
      rw [hc0'] at t1
      have hlp : 0 < l.length := by
        cases l with
        | nil => exact (hl0 rfl).elim
        | cons a l => simp
      obtain ⟨c, M2, n2, b2, g2, l2⟩ := next_m (k := k + 1) h10 hd g1.w (m := (l.length : Nat)) (by omega)
      have n2 : callAt P (k + 2) jn [.ref 2, .int (l.length : Nat)] M1 = some (.int c, M2) := n2
      have hcl : c < l.length := by omega
      have hx : l[c]? = some l[c] := List.getElem?_eq_getElem hcl
      obtain ⟨e, M3, n3, sub, g3⟩ := hrec l[c] (List.getElem_mem hcl) M2 g2.w
      have s1 : ex (cfA P (k + 2)) (gS1 jn) [some (.ref 2), some (.tup l), some (.int z), none] M1 = some ((.nx, [some (.ref 2), some (.tup l), some (.int z), some (.int c)]), M2) := by
        unfold gS1
        simp [n2]
      have e1 : ∀ M, ev (cfA P (k + 2)) gE1 [some (.ref 2), some (.tup l), some (.int z), some (.int c)] M = some (.v (.tup (l.take c)), M) := fun M => by
        have : slA M (.v (.tup l)) none (some (c : Int)) = some (.v (.tup (l.take c))) := by unfold slA; dsimp only; rw [cut_hi2]
        simp [gE1, this]
      have ix : L2.atI l (c : Int) = some l[c] := by rw [atI_nat, hx]
      have e2 : ev (cfA P (k + 2)) (gE2 js) [some (.ref 2), some (.tup l), some (.int z), some (.int c)] M2 = some (.v (.tup [e]), M3) := by
        unfold gE2
        simp [ix, n3, line]
      have e3 : ∀ M, ev (cfA P (k + 2)) gE3 [some (.ref 2), some (.tup l), some (.int z), some (.int c)] M = some (.v (.tup (l.drop (c + 1))), M) := fun M => by
        have hc : ((c : Int) + 1) = ((c + 1 : Nat) : Int) := by omega
        have : slA M (.v (.tup l)) (some ((c : Int) + 1)) none = some (.v (.tup (l.drop (c + 1)))) := by unfold slA; dsimp only; rw [hc, cut_lo]
        simp [gE3, this]
      have q1 : (l.take c).length + ([e] : List D).length ≤ line := by rw [List.length_take]; simp; omega
      have q2 : (l.take c ++ [e]).length + (l.drop (c + 1)).length ≤ line := by rw [List.length_append, List.length_take, List.length_drop]; simp; omega
      have add : ∀ (M : Mem) (a b : List D), a.length + b.length ≤ line → op2 .add (.v (.tup a)) (.v (.tup b)) M = some (.v (.tup (a ++ b)), M) := fun M a b h => by
        unfold op2
        simp [h]
      refine run (.tup (l.take c ++ [e] ++ l.drop (c + 1))) M3 [some (.ref 2), some (.tup l), some (.int z), some (.int c)] ?_ (g1.trans (g2.trans g3)) (hT _ _ _ _ hx sub)
      unfold bBentG
      rw [exs_cons, ex_ite, t1, bnd_some, kIteS_ap, if_pos rfl, exs_cons, s1, bnd_some, kSs_nx, exs_cons, ex_ret, evD_eq, ev_op, ev_op, e1, bnd_some, kOp_ap, e2, bnd_some, kOp2_ap, add _ _ _ q1, bnd_some, kOp_ap, e3, bnd_some, kOp2_ap, add _ _ _ q2, bnd_some, toD_v, bnd_some, kD1_ap, bnd_some, kSs_rt, bnd_some, kSs_rt]
end
end Ev
namespace Ev
open PySem
/-! ### the walk, goal by goal: what a text comes to, and what is then true -/
def WP {α : Type} (x : Option (α × Mem)) (Q : α → Mem → Prop) : Prop := ∃ a M, x = some (a, M) ∧ Q a M
theorem WP.intro {α : Type} {a : α} {M : Mem} {Q : α → Mem → Prop} (h : Q a M) : WP (some (a, M)) Q := ⟨a, M, rfl, h⟩
theorem WP.bnd {α β : Type} {x : Option (α × Mem)} {f : α → Mem → Option (β × Mem)} {R : α → Mem → Prop} {Q : β → Mem → Prop} (h : WP x R) (k : ∀ a M, R a M → WP (f a M) Q) : WP (bnd x f) Q := by
  obtain ⟨a, M, rfl, r⟩ := h
  exact k a M r
theorem WP.mono {α : Type} {x : Option (α × Mem)} {R Q : α → Mem → Prop} (h : WP x R) (k : ∀ a M, R a M → Q a M) : WP x Q := by
  obtain ⟨a, M, e, r⟩ := h
  exact ⟨a, M, e, k a M r⟩
theorem WP.eq {α : Type} {x : Option (α × Mem)} {a : α} {M : Mem} {Q : α → Mem → Prop} (e : x = some (a, M)) (h : Q a M) : WP x Q := ⟨a, M, e, h⟩
section
variable [Tab] {P : List FD} {i k n q : Nat} {cf : Cf} {v : Env} {M M' : Mem} {ds : List Int}
/-! .. what stands at a place -/
@[simp] theorem set_selfW (n : Nat) (o : MO) : (M.set n o)[n]? = (M[n]?).map fun _ => o := by
  rw [List.getElem?_set]
  cases h : M[n]? with
  | none =>
    have := List.getElem?_eq_none_iff.mp h
    simp [Nat.not_lt.mpr this]
  | some a =>
    have := (List.getElem?_eq_some_iff.mp h).1
    simp [this]
def rLst : Option MO → Option (List D)
  | some (.lst ds) => some ds
  | _ => none
def rLen : Option MO → Option Nat
  | some (.lst ds) => some ds.length
  | some (.dic _ kvs) => some kvs.length
  | _ => none
def rDraws : Option MO → Option (List D)
  | some (.lst ds) => some ds
  | some (.dic _ kvs) => some (kvs.map (·.1))
  | _ => none
def rIx (k : D) : Option MO → Option D
  | some (.lst ds) => (match k with
    | .int i => L2.atI ds i
    | _ => none)
  | some (.dic t kvs) => if isKey t k then dget kvs k else none
  | _ => none
def rFld (f : Nat) : Option MO → Option D
  | some (.ins C fs) => if (C, f) ∈ Tab.fl then fs.lookup f else none
  | _ => none
def qSetF (f : Nat) (v : D) : Option MO → Option MO
  | some (.ins C fs) => if (C, f) ∈ Tab.fl ∧ fs.length < 1000 ∧ f < Tab.nm.length then some (.ins C (putFs f v fs)) else none
  | _ => none
def qSetI (k v : D) : Option MO → Option MO
  | some (.lst ds) => (match k with
    | .int i => (match L2.ixN ds.length i with
      | some j => some (.lst (ds.set j v))
      | none => none)
    | _ => none)
  | some (.dic t kvs) => if isKey t k ∧ kvs.length < line then some (.dic t (dput kvs k v)) else none
  | _ => none
def rTy (t : Ty) : Option MO → Option Bool
  | some (.lst _) => some (decide (t = .list))
  | some (.dic _ _) => some false
  | _ => none
@[simp] theorem rLst_lst (l : List D) : rLst (some (.lst l)) = some l := rfl
@[simp] theorem rLen_lst (l : List D) : rLen (some (.lst l)) = some l.length := rfl
@[simp] theorem rLen_dic (t : Bool) (l : List (D × D)) : rLen (some (.dic t l)) = some l.length := rfl
@[simp] theorem rDraws_lst (l : List D) : rDraws (some (.lst l)) = some l := rfl
@[simp] theorem rDraws_dic (t : Bool) (l : List (D × D)) : rDraws (some (.dic t l)) = some (l.map (·.1)) := rfl
@[simp] theorem rIx_lst (l : List D) (i : Int) : rIx (.int i) (some (.lst l)) = L2.atI l i := rfl
@[simp] theorem rIx_dic (t : Bool) (l : List (D × D)) (k : D) : rIx k (some (.dic t l)) = if isKey t k then dget l k else none := rfl
@[simp] theorem rFld_ins (C f : Nat) (fs : List (Nat × D)) : rFld f (some (.ins C fs)) = if (C, f) ∈ Tab.fl then fs.lookup f else none := rfl
@[simp] theorem qSetF_ins (C f : Nat) (v : D) (fs : List (Nat × D)) : qSetF f v (some (.ins C fs)) = if (C, f) ∈ Tab.fl ∧ fs.length < 1000 ∧ f < Tab.nm.length then some (.ins C (putFs f v fs)) else none := rfl
@[simp] theorem qSetI_dic (t : Bool) (l : List (D × D)) (k v : D) : qSetI k v (some (.dic t l)) = if isKey t k ∧ l.length < line then some (.dic t (dput l k v)) else none := rfl
@[simp] theorem qSetI_lst (l : List D) (i : Int) (v : D) : qSetI (.int i) v (some (.lst l)) = (L2.ixN l.length i).map fun j => .lst (l.set j v) := by
  unfold qSetI
  dsimp only
  first
    | done
    | (cases L2.ixN l.length i <;> rfl)
@[simp] theorem rTy_lst (t : Ty) (l : List D) : rTy t (some (.lst l)) = some (decide (t = .list)) := rfl
@[simp] theorem rTy_dic (t : Ty) (b : Bool) (l : List (D × D)) : rTy t (some (.dic b l)) = some false := rfl
@[simp] theorem itemsOf_r (n : Nat) : itemsOf M (.v (.ref n)) = rLst (M[n]?) := by
  unfold itemsOf rLst
  dsimp only
  first
    | done
    | (cases M[n]? with
      | none => rfl
      | some o => cases o <;> rfl)
@[simp] theorem listOf_r (n : Nat) : listOf M (.v (.ref n)) = rLst (M[n]?) := itemsOf_r n
@[simp] theorem listOf_l (l : List D) : listOf M (.l l) = some l := rfl
@[simp] theorem lenOf_r (n : Nat) : lenOf M (.v (.ref n)) = rLen (M[n]?) := by
  unfold lenOf rLen
  dsimp only
  first
    | done
    | (cases M[n]? with
      | none => rfl
      | some o => cases o <;> rfl)
@[simp] theorem drawsOf_r (n : Nat) : drawsOf M (.v (.ref n)) = rDraws (M[n]?) := by
  unfold drawsOf rDraws
  dsimp only
  first
    | done
    | (cases M[n]? with
      | none => rfl
      | some o => cases o <;> rfl)
@[simp] theorem drawsOf_tup (l : List D) : drawsOf M (.v (.tup l)) = some l := rfl
@[simp] theorem drawsOf_l (l : List D) : drawsOf M (.l l) = some l := rfl
@[simp] theorem ixD_r (n : Nat) (k : D) : ixD M (.v (.ref n)) k = rIx k (M[n]?) := by
  unfold ixD rIx
  dsimp only
  first
    | done
    | (cases M[n]? with
      | none => rfl
      | some o => cases o <;> first | rfl | (cases k <;> rfl))
@[simp] theorem getF_r (n f : Nat) : getF M (.ref n) f = rFld f (M[n]?) := by
  unfold getF rFld
  dsimp only
  first
    | done
    | (cases M[n]? with
      | none => rfl
      | some o => cases o <;> rfl)
@[simp] theorem setF_r (n f : Nat) (d : D) : setF M (.ref n) f d = (qSetF f d (M[n]?)).map fun o => M.set n o := by
  unfold setF qSetF
  dsimp only
  first
    | done
    | (cases M[n]? with
      | none => rfl
      | some o =>
        cases o <;> first | rfl | skip
        dsimp only
        split <;> rfl)
@[simp] theorem setI_r (n : Nat) (k d : D) : setI M (.ref n) k d = (qSetI k d (M[n]?)).map fun o => M.set n o := by
  unfold setI qSetI
  dsimp only
  first
    | done
    | (cases M[n]? with
      | none => rfl
      | some o =>
        cases o with
        | lst l =>
          cases k <;> first | rfl | skip
          dsimp only
          cases L2.ixN l.length _ <;> rfl
        | dic t kvs =>
          dsimp only
          split <;> rfl
        | ins _ _ => rfl
        | set _ _ => rfl)
@[simp] theorem isTyA_r (t : Ty) (n : Nat) : isTyA M t (.v (.ref n)) = rTy t (M[n]?) := by
  unfold isTyA rTy
  dsimp only
  first
    | done
    | (cases M[n]? with
      | none => rfl
      | some o => cases o <;> rfl)
@[simp] theorem isTyA_int (t : Ty) (i : Int) : isTyA M t (.v (.int i)) = some (isTy t (.int i)) := rfl
@[simp] theorem isTyA_bl (t : Ty) (i : Bool) : isTyA M t (.v (.bl i)) = some (isTy t (.bl i)) := rfl
@[simp] theorem isTyA_str (t : Ty) (i : Str) : isTyA M t (.v (.str i)) = some (isTy t (.str i)) := rfl
@[simp] theorem isTyA_non (t : Ty) : isTyA M t (.v .non) = some (isTy t .non) := rfl
@[simp] theorem isTyA_l (t : Ty) (l : List D) : isTyA M t (.l l) = some (decide (t = .list)) := rfl
@[simp] theorem guardOf_r (n : Nat) : guardOf M (.v (.ref n)) = (M[n]?).map fun o => (n, o) := rfl
@[simp] theorem guardOf_l (l : List D) : guardOf M (.l l) = none := rfl
@[simp] theorem guardOf_tup (l : List D) : guardOf M (.v (.tup l)) = none := rfl
@[simp] theorem guardOf_fz (l : List D) : guardOf M (.v (.fz l)) = none := rfl
@[simp] theorem still_none : still M none = true := rfl
@[simp] theorem still_some' (n : Nat) (o : MO) : still M (some (n, o)) = decide (M[n]? = some o) := rfl
/-! .. methods -/
def rMth (cf : Cf) (m : Option Nat) (b : Option BM) (es : Es) (v : Env) (n : Nat) (M : Mem) : Option MO → Option (A × Mem)
  | some (.ins C fs) => (match m with
    | some m => if (fs.lookup m).isNone then (match Tab.mt.lookup (C, m) with
        | some f => bnd (evs cf es v M) (kMth1 cf n f)
        | none => none)
      else none
    | none => none)
  | some _ => (match b with
    | some b => bnd (evas cf es v M) (kMth2 M n b)
    | none => none)
  | none => none
@[simp] theorem kMth_r (m : Option Nat) (b : Option BM) (es : Es) (n : Nat) : kMth cf m b es v (.v (.ref n)) M = rMth cf m b es v n M (M[n]?) := by
  unfold kMth rMth
  dsimp only
  first
    | done
    | (cases M[n]? with
      | none => rfl
      | some o => cases o <;> rfl)
@[simp] theorem rMth_lst (m : Option Nat) (b : BM) (es : Es) (l : List D) : rMth cf m (some b) es v n M (some (.lst l)) = bnd (evas cf es v M) (kMth2 M n b) := rfl
@[simp] theorem rMth_dic (m : Option Nat) (b : BM) (es : Es) (t : Bool) (l : List (D × D)) : rMth cf m (some b) es v n M (some (.dic t l)) = bnd (evas cf es v M) (kMth2 M n b) := rfl
def rMf (cf : Cf) (es : Es) (v : Env) (n : Nat) (M : Mem) : Option Nat → Option (A × Mem)
  | some f => bnd (evs cf es v M) (kMth1 cf n f)
  | none => none
@[simp] theorem rMf_some (es : Es) (f : Nat) : rMf cf es v n M (some f) = bnd (evs cf es v M) (kMth1 cf n f) := rfl
@[simp] theorem rMth_ins (m : Nat) (b : Option BM) (es : Es) (C : Nat) (fs : List (Nat × D)) : rMth cf (some m) b es v n M (some (.ins C fs)) = if (fs.lookup m).isNone = true then rMf cf es v n M (Tab.mt.lookup (C, m)) else none := by
  unfold rMth rMf
  rfl
def rM2 (n : Nat) (b : BM) (as : List A) (M : Mem) (o0 : Option MO) : Option MO → Option (A × Mem)
  | some o => if some (kindM o) = o0.map kindM then bmA n o b as M else none
  | none => none
@[simp] theorem kMth2_r (M0 : Mem) (b : BM) (as : List A) : kMth2 M0 n b as M = rM2 n b as M (M0[n]?) (M[n]?) := by
  unfold kMth2 rM2
  cases M[n]? <;> rfl
@[simp] theorem rM2_app (as : List A) (l l0 : List D) : rM2 n .append as M (some (.lst l0)) (some (.lst l)) = bmAppend n l as M := by
  unfold rM2
  simp [bmA, kindM]
@[simp] theorem rM2_pop (as : List A) (l l0 : List D) : rM2 n .pop as M (some (.lst l0)) (some (.lst l)) = bmPop n l as M := by
  unfold rM2
  simp [bmA, kindM]
@[simp] theorem rM2_get (as : List A) (t : Bool) (l l0 : List (D × D)) : rM2 n .get as M (some (.dic t l0)) (some (.dic t l)) = bmGet t l as M := by
  unfold rM2
  cases t <;> simp [bmA, kindM]
@[simp] theorem bmApp_v (l : List D) (d : D) : bmAppend n l [.v d] M = if l.length < line then some (.v .non, M.set n (.lst (l ++ [d]))) else none := rfl
@[simp] theorem bmApp_l (l x : List D) : bmAppend n l [.l x] M = if l.length < line then some (.v .non, M.set n (.lst (l ++ [.ref M.length])) ++ [.lst x]) else none := rfl
@[simp] theorem bmGet_1 (t : Bool) (l : List (D × D)) (k : D) : bmGet t l [.v k] M = if isKey t k then some (.v ((dget l k).getD .non), M) else none := rfl
@[simp] theorem bmGet_2 (t : Bool) (l : List (D × D)) (k d : D) : bmGet t l [.v k, .v d] M = if isKey t k then some (.v ((dget l k).getD d), M) else none := rfl
/-! .. walks and what they draw from -/
def kItx : A → Mem → Option ((List D × Option (Nat × MO)) × Mem) := fun x M => (itemsOf M x).map fun ds => ((ds, guardOf M x), M)
@[simp] theorem kItx_ap (x : A) : kItx x M = (itemsOf M x).map fun ds => ((ds, guardOf M x), M) := (rfl)
@[simp] theorem evIt_ex' (e : E) : evIt cf (.ex e) v M = bnd (ev cf e v M) kItx := by rw [evIt]; rfl
def kRg2 (x : A) : A → Mem → Option ((List D × Option (Nat × MO)) × Mem) := fun y M => match x, y with
    | .v (.int i), .v (.int j) => if -(2 ^ 60) ≤ i ∧ i < 2 ^ 60 ∧ -(2 ^ 60) ≤ j ∧ j < 2 ^ 60 ∧ j - i ≤ line then some ((rangeD i j, none), M) else none
    | _, _ => none
def kRg (cf : Cf) (b : E) (v : Env) : A → Mem → Option ((List D × Option (Nat × MO)) × Mem) := fun x M => bnd (ev cf b v M) (kRg2 x)
@[simp] theorem evIt_rng' (a b : E) : evIt cf (.rng a b) v M = bnd (ev cf a v M) (kRg cf b v) := by rw [evIt]; rfl
@[simp] theorem kRg_ap (b : E) (x : A) : kRg cf b v x M = bnd (ev cf b v M) (kRg2 x) := (rfl)
/-- a range that is not too long -/
def rOk (i j : Int) : Prop := -(2 ^ 60) ≤ i ∧ i < 2 ^ 60 ∧ -(2 ^ 60) ≤ j ∧ j < 2 ^ 60 ∧ j - i ≤ line
instance (i j : Int) : Decidable (rOk i j) := inferInstanceAs (Decidable (_ ∧ _))
theorem rOk_of {i j : Int} (h : -1000000 ≤ i ∧ i ≤ 10000000 ∧ -1000000 ≤ j ∧ j ≤ 10000000) : rOk i j := by
  have : line = 16000000 := rfl
  unfold rOk
  omega
@[simp] theorem kRg2_ap (i j : Int) : kRg2 (.v (.int i)) (.v (.int j)) M = if rOk i j then some ((rangeD i j, none), M) else none := (rfl)
/-! .. more statements -/
def kPrW (is : List Nat) (v : Env) : List D → Mem → Option ((Fl × Env) × Mem) := fun ds M => if is.length = ds.length ∧ is.all (· < v.length) = true ∧ is.length < 4 then some ((.nx, setAll is.reverse ds.reverse v), M) else none
@[simp] theorem kPrW_ap (is : List Nat) (ds : List D) : kPrW is v ds M = if is.length = ds.length ∧ is.all (· < v.length) = true ∧ is.length < 4 then some ((.nx, setAll is.reverse ds.reverse v), M) else none := (rfl)
@[simp] theorem ex_parW (is : List Nat) (es : Es) : ex cf (.par is es) v M = bnd (evs cf es v M) (kPrW is v) := by rw [ex]; rfl
@[simp] theorem setAll_nil (ds : List D) : setAll [] ds v = v := rfl
@[simp] theorem setAll_cons (i : Nat) (is : List Nat) (d : D) (ds : List D) : setAll (i :: is) (d :: ds) v = setAll is ds (v.set i (some d)) := rfl
@[simp] theorem ex_whileW (e : E) (b : Ss) : ex cf (.while e b) v M = whileL (evB cf e) (exs cf b) whileMost v M := by rw [ex]
@[simp] theorem opi_addW (i j : Int) : opi .add (.int i) (.v (.int j)) M = some (.int (i + j), M) := (rfl)
@[simp] theorem opi_subW (i j : Int) : opi .sub (.int i) (.v (.int j)) M = some (.int (i - j), M) := (rfl)
def kAugs3 (a k : D) (v : Env) : D → Mem → Option ((Fl × Env) × Mem) := fun d M => (setI M a k d).map fun M => ((.nx, v), M)
def kAugs2 (a k : D) (v : Env) (o : Op2) (x : D) : A → Mem → Option ((Fl × Env) × Mem) := fun y M => bnd (opi o x y M) (kAugs3 a k v)
def rAugs (cf : Cf) (a k : D) (v : Env) (o : Op2) (e : E) (M : Mem) : Option D → Option ((Fl × Env) × Mem)
  | some x => bnd (ev cf e v M) (kAugs2 a k v o x)
  | none => none
def kAugs1 (cf : Cf) (a : D) (v : Env) (o : Op2) (e : E) : D → Mem → Option ((Fl × Env) × Mem) := fun k M => rAugs cf a k v o e M (ixD M (.v a) k)
def kAugs (cf : Cf) (b : E) (v : Env) (o : Op2) (e : E) : D → Mem → Option ((Fl × Env) × Mem) := fun a M => bnd (evD cf b v M) (kAugs1 cf a v o e)
@[simp] theorem ex_augsW (a b : E) (o : Op2) (e : E) : ex cf (.augs a b o e) v M = bnd (evD cf a v M) (kAugs cf b v o e) := by
  rw [ex]
  unfold kAugs kAugs1 rAugs kAugs2 kAugs3
  congr 1
@[simp] theorem kAugs_ap (b : E) (o : Op2) (e : E) (a : D) : kAugs cf b v o e a M = bnd (evD cf b v M) (kAugs1 cf a v o e) := (rfl)
@[simp] theorem kAugs1_ap (o : Op2) (e : E) (a k : D) : kAugs1 cf a v o e k M = rAugs cf a k v o e M (ixD M (.v a) k) := (rfl)
@[simp] theorem rAugs_some (o : Op2) (e : E) (a k x : D) : rAugs cf a k v o e M (some x) = bnd (ev cf e v M) (kAugs2 a k v o x) := (rfl)
@[simp] theorem kAugs2_ap (o : Op2) (a k x : D) (y : A) : kAugs2 a k v o x y M = bnd (opi o x y M) (kAugs3 a k v) := (rfl)
@[simp] theorem kAugs3_ap (a k d : D) : kAugs3 a k v d M = (setI M a k d).map fun M => ((.nx, v), M) := (rfl)
def kAugf2 (a : D) (f : Nat) (v : Env) (c0 : Option Nat) : D → Mem → Option ((Fl × Env) × Mem) := fun d M2 => if clsOf M2 a = c0 then (setF M2 a f d).map fun M => ((.nx, v), M) else none
def kAugf1 (a : D) (f : Nat) (v : Env) (o : Op2) (x : D) (c0 : Option Nat) : A → Mem → Option ((Fl × Env) × Mem) := fun y M2 => bnd (opi o x y M2) (kAugf2 a f v c0)
def rAugf (cf : Cf) (a : D) (f : Nat) (v : Env) (o : Op2) (e : E) (M : Mem) : Option D → Option ((Fl × Env) × Mem)
  | some x => bnd (ev cf e v M) (kAugf1 a f v o x (clsOf M a))
  | none => none
def kAugf (cf : Cf) (f : Nat) (v : Env) (o : Op2) (e : E) : D → Mem → Option ((Fl × Env) × Mem) := fun a M => rAugf cf a f v o e M (getF M a f)
@[simp] theorem ex_augfW (a : E) (f : Nat) (o : Op2) (e : E) : ex cf (.augf a f o e) v M = bnd (evD cf a v M) (kAugf cf f v o e) := by
  rw [ex]
  unfold kAugf rAugf kAugf1 kAugf2
  congr 1
@[simp] theorem kAugf_ap (f : Nat) (o : Op2) (e : E) (a : D) : kAugf cf f v o e a M = rAugf cf a f v o e M (getF M a f) := (rfl)
@[simp] theorem rAugf_some (f : Nat) (o : Op2) (e : E) (a x : D) : rAugf cf a f v o e M (some x) = bnd (ev cf e v M) (kAugf1 a f v o x (clsOf M a)) := (rfl)
@[simp] theorem kAugf1_ap (f : Nat) (o : Op2) (a x : D) (c0 : Option Nat) (y : A) : kAugf1 a f v o x c0 y M = bnd (opi o x y M) (kAugf2 a f v c0) := (rfl)
@[simp] theorem kAugf2_ap (f : Nat) (a d : D) (c0 : Option Nat) : kAugf2 a f v c0 d M = if clsOf M a = c0 then (setF M a f d).map fun M => ((.nx, v), M) else none := (rfl)
def rCls : Option MO → Option Nat
  | some (.ins C _) => some C
  | _ => none
@[simp] theorem rCls_ins (C : Nat) (fs : List (Nat × D)) : rCls (some (.ins C fs)) = some C := rfl
@[simp] theorem clsOf_r (n : Nat) : clsOf M (.ref n) = rCls (M[n]?) := by
  unfold clsOf rCls
  dsimp only
  first
    | done
    | (cases M[n]? with
      | none => rfl
      | some o => cases o <;> rfl)
/-! .. new things -/
def kMk2 (r : Nat) : D → Mem → Option (A × Mem) := fun d M2 => if d = .non then some (.v (.ref r), M2) else none
def kMk (cf : Cf) (C : Nat) : List D → Mem → Option (A × Mem) := fun ds M => bnd (cf.init C (.ref M.length :: ds) (M ++ [.ins C []])) (kMk2 M.length)
@[simp] theorem ev_mkW (C : Nat) (es : Es) : ev cf (.mk C es) v M = bnd (evs cf es v M) (kMk cf C) := by rw [ev]; rfl
@[simp] theorem kMk_ap (C : Nat) (ds : List D) : kMk cf C ds M = bnd (cf.init C (.ref M.length :: ds) (M ++ [.ins C []])) (kMk2 M.length) := (rfl)
@[simp] theorem kMk2_non (r : Nat) : kMk2 r .non M = some (.v (.ref r), M) := (rfl)
@[simp] theorem cfA_init (C : Nat) (ds : List D) : (cfA P k).init C ds M = iniOf (callAt P (k - 1)) C ds M := (rfl)
def rIni (c : Nat → List D → Mem → Option (D × Mem)) (ds : List D) (M : Mem) : Option Nat → Option (D × Mem)
  | some f => c f ds M
  | none => none
@[simp] theorem rIni_some (c : Nat → List D → Mem → Option (D × Mem)) (ds : List D) (f : Nat) : rIni c ds M (some f) = c f ds M := rfl
@[simp] theorem iniOf_W (c : Nat → List D → Mem → Option (D × Mem)) (C : Nat) (ds : List D) : iniOf c C ds M = rIni c ds M (Tab.ini.lookup C) := by
  unfold iniOf rIni
  rfl
theorem iniOf_eq {C f : Nat} (h : Tab.ini.lookup C = some f) (c : Nat → List D → Mem → Option (D × Mem)) (ds : List D) (M : Mem) : iniOf c C ds M = c f ds M := by
  unfold iniOf
  rw [h]
/-! .. numbers of parts -/
@[simp] theorem aN0 {x : D} {l : List D} : L2.atI (x :: l) 0 = some x := by simpa using atI_nat (x :: l) 0
@[simp] theorem aN1 {x y : D} {l : List D} : L2.atI (x :: y :: l) 1 = some y := by simpa using atI_nat (x :: y :: l) 1
@[simp] theorem aN2 {x y z : D} {l : List D} : L2.atI (x :: y :: z :: l) 2 = some z := by simpa using atI_nat (x :: y :: z :: l) 2
@[simp] theorem aN3 {x y z u : D} {l : List D} : L2.atI (x :: y :: z :: u :: l) 3 = some u := by simpa using atI_nat (x :: y :: z :: u :: l) 3
@[simp] theorem aN4 {x y z u w : D} {l : List D} : L2.atI (x :: y :: z :: u :: w :: l) 4 = some w := by simpa using atI_nat (x :: y :: z :: u :: w :: l) 4
@[simp] theorem aNn {α : Type} (l : List α) (n : Nat) : L2.atI l (n : Int) = l[n]? := atI_nat l n
/-! .. sums and the like of lists of numbers -/
theorem intsOf_map : ∀ l : List Int, intsOf (l.map D.int) = some l
  | [] => rfl
  | i :: l => by rw [List.map_cons, intsOf, intsOf_map l]; rfl
theorem boolsOf_map : ∀ l : List Bool, boolsOf (l.map D.bl) = some l
  | [] => rfl
  | i :: l => by rw [List.map_cons, boolsOf, boolsOf_map l]; rfl
theorem sum_items {x : A} {l : List Int} (h : itemsOf M x = some (l.map D.int)) : biA .sum [x] M = some (.v (.int l.sum), M) := by
  show biSum x M = _
  unfold biSum
  rw [h]
  dsimp only
  rw [intsOf_map]
  rfl
theorem all_items {x : A} {l : List Bool} (h : listOf M x = some (l.map D.bl)) : biA .all [x] M = some (.v (.bl (l.all id)), M) := by
  show biAll x M = _
  unfold biAll
  rw [h]
  dsimp only
  rw [boolsOf_map]
  rfl
theorem any_items {x : A} {l : List Bool} (h : listOf M x = some (l.map D.bl)) : biA .any [x] M = some (.v (.bl (l.any id)), M) := by
  show biAny x M = _
  unfold biAny
  rw [h]
  dsimp only
  rw [boolsOf_map]
  rfl
/-! .. adding up rows -/
@[simp] theorem add_ttW (x y : List D) : op2 .add (.v (.tup x)) (.v (.tup y)) M = if x.length + y.length ≤ line then some (.v (.tup (x ++ y)), M) else none := (rfl)
theorem add_li {a b : A} {x y : List D} (ha : wlistOf M a = some x) (hb : wlistOf M b = some y) (hl : x.length + y.length ≤ line) : op2 .add a b M = some (.l (x ++ y), M) := by
  have : ∀ (a b : A), wlistOf M a = some x → wlistOf M b = some y → op2 .add a b M = some (.l (x ++ y), M) := by
    intro a b ha hb
    cases a with
    | l x' =>
      unfold op2
      simp only [ha, hb]
      rw [if_pos hl]
    | v d =>
      cases d <;> first | (cases ha; done) | skip
      unfold op2
      simp only [ha, hb]
      rw [if_pos hl]
  exact this a b ha hb
@[simp] theorem wlistOf_l (l : List D) : wlistOf M (.l l) = some l := rfl
@[simp] theorem wlistOf_r (n : Nat) : wlistOf M (.v (.ref n)) = rLst (M[n]?) := by
  unfold wlistOf rLst
  dsimp only
  first
    | done
    | (cases M[n]? with
      | none => rfl
      | some o => cases o <;> rfl)
def rAdd (M : Mem) : Option (List D) → Option (List D) → Option (A × Mem)
  | some x, some y => if x.length + y.length ≤ line then some (.l (x ++ y), M) else none
  | _, _ => none
@[simp] theorem rAdd_some (x y : List D) : rAdd M (some x) (some y) = if x.length + y.length ≤ line then some (.l (x ++ y), M) else none := rfl
@[simp] theorem add_ll' (x y : List D) : op2 .add (.l x) (.l y) M = if x.length + y.length ≤ line then some (.l (x ++ y), M) else none := rfl
@[simp] theorem add_rl' (n : Nat) (y : List D) : op2 .add (.v (.ref n)) (.l y) M = rAdd M (rLst (M[n]?)) (some y) := by
  unfold op2
  dsimp only
  rw [wlistOf_r, wlistOf_l]
  cases rLst (M[n]?) <;> rfl
@[simp] theorem add_lr' (n : Nat) (x : List D) : op2 .add (.l x) (.v (.ref n)) M = rAdd M (some x) (rLst (M[n]?)) := by
  unfold op2
  dsimp only
  rw [wlistOf_r, wlistOf_l]
  cases rLst (M[n]?) <;> rfl
@[simp] theorem add_rr' (m n : Nat) : op2 .add (.v (.ref m)) (.v (.ref n)) M = rAdd M (rLst (M[m]?)) (rLst (M[n]?)) := by
  unfold op2
  dsimp only
  rw [wlistOf_r, wlistOf_r]
  cases rLst (M[m]?) <;> cases rLst (M[n]?) <;> rfl
end
end Ev
namespace Ev
open PySem
/-! ### walks through lists that are images -/
section
variable [Tab] {P : List FD} {i k n q : Nat} {cf : Cf} {v : Env} {M M' : Mem}
/-- a walk, what is done so far told; it may end early -/
theorem w_forR {α : Type} {b : D → Env → Mem → Option ((Fl × Env) × Mem)} {g : Option (Nat × MO)} (f : α → D) (I : List α → Env → Mem → Prop) (R : D → Env → Mem → Prop) (hg : ∀ done v M, I done v M → still M g = true) :
    ∀ (rest done : List α) {v : Env} {M : Mem}, (∀ dn x r v M, done ++ rest = dn ++ x :: r → I dn v M → WP (b (f x) v M) fun r M' => ((r.1 = .nx ∨ r.1 = .ct) ∧ I (dn ++ [x]) r.2 M') ∨ ∃ d, r.1 = .rt d ∧ R d r.2 M') → I done v M →
    WP (forL b g (rest.map f) v M) fun r M' => (r.1 = .nx ∧ I (done ++ rest) r.2 M') ∨ ∃ d, r.1 = .rt d ∧ R d r.2 M'
  | [], done, v, M, hb, h => by
    rw [List.map_nil, forL, if_pos (hg _ _ _ h)]
    exact WP.intro (.inl ⟨rfl, by rw [List.append_nil]; exact h⟩)
  | x :: rest, done, v, M, hb, h => by
    obtain ⟨⟨fl, v1⟩, M1, e, h1⟩ := hb done x rest v M rfl h
    rw [List.map_cons, forL, if_pos (hg _ _ _ h), e, bnd_some]
    rcases h1 with ⟨h2, h3⟩ | ⟨d, h2, h3⟩
    · have ih := w_forR f I R hg rest (done ++ [x]) (v := v1) (M := M1) (fun dn y r v M e => hb dn y r v M (by rw [← e]; simp)) h3
      rw [List.append_assoc, List.singleton_append] at ih
      rcases h2 with h2 | h2 <;> (have h2 : fl = _ := h2; subst h2; exact ih)
    · have h2 : fl = _ := h2
      subst h2
      exact WP.intro (.inr ⟨d, rfl, h3⟩)
theorem w_for {α : Type} {b : D → Env → Mem → Option ((Fl × Env) × Mem)} {g : Option (Nat × MO)} (f : α → D) (I : List α → Env → Mem → Prop) (hg : ∀ done v M, I done v M → still M g = true) (xs : List α) {v : Env} {M : Mem}
    (hb : ∀ dn x r v M, xs = dn ++ x :: r → I dn v M → WP (b (f x) v M) fun r M' => r.1 = .nx ∧ I (dn ++ [x]) r.2 M') (h : I [] v M) :
    ∃ v' M', forL b g (xs.map f) v M = some ((.nx, v'), M') ∧ I xs v' M' := by
  obtain ⟨⟨fl, v1⟩, M1, e, h1⟩ := w_forR f I (fun _ _ _ => False) hg xs [] (fun dn x r v M e hi => (hb dn x r v M e hi).mono fun a M h => .inl ⟨.inl h.1, h.2⟩) h
  rcases h1 with ⟨h2, h3⟩ | ⟨_, _, h3⟩
  · have h2 : fl = _ := h2
    subst h2
    exact ⟨v1, M1, e, h3⟩
  · exact h3.elim
/-- a search that changes nothing but the slots -/
theorem w_find {α : Type} {b : D → Env → Mem → Option ((Fl × Env) × Mem)} {g : Option (Nat × MO)} (f : α → D) (hit : α → Option D) (I : Env → Prop) (hg : still M g = true) : ∀ (xs : List α) {v : Env},
    (∀ x ∈ xs, ∀ v, I v → WP (b (f x) v M) fun r M' => M' = M ∧ (match hit x with
      | none => (r.1 = .nx ∨ r.1 = .ct) ∧ I r.2
      | some d => r.1 = .rt d)) → I v → WP (forL b g (xs.map f) v M) fun r M' => M' = M ∧ (match xs.findSome? hit with
      | none => r.1 = .nx ∧ I r.2
      | some d => r.1 = .rt d)
  | [], v, hb, h => by
    rw [List.map_nil, forL, if_pos hg]
    exact WP.intro ⟨rfl, rfl, h⟩
  | x :: xs, v, hb, h => by
    obtain ⟨⟨fl, v1⟩, M1, e, eM, h1⟩ := hb x List.mem_cons_self v h
    rw [eM] at e
    rw [List.map_cons, forL, if_pos hg, e, bnd_some, List.findSome?_cons]
    cases hx : hit x with
    | none =>
      rw [hx] at h1
      obtain ⟨h2, h3⟩ := h1
      have ih := w_find f hit I hg xs (v := v1) (fun y hy => hb y (List.mem_cons_of_mem _ hy)) h3
      rcases h2 with h2 | h2 <;> (have h2 : fl = _ := h2; subst h2; exact ih)
    | some d =>
      rw [hx] at h1
      have h1 : fl = _ := h1
      subst h1
      exact WP.intro ⟨rfl, rfl⟩
/-- a list drawn from a list -/
theorem w_lc {α : Type} {body : D → Mem → Option (Option D × Mem)} {g : Option (Nat × MO)} (f : α → D) (I : List α → List D → Mem → Prop) (hg : ∀ done acc M, I done acc M → still M g = true) :
    ∀ (rest done : List α) (acc : List D) {M : Mem}, (∀ dn x r acc M, done ++ rest = dn ++ x :: r → I dn acc M → WP (body (f x) M) fun o M' => I (dn ++ [x]) (acc ++ o.toList) M') → I done acc M →
    WP (lcLoop body g (rest.map f) M) fun rs M' => I (done ++ rest) (acc ++ rs) M'
  | [], done, acc, M, hb, h => by
    rw [List.map_nil, lcLoop, if_pos (hg _ _ _ h)]
    exact WP.intro (by rw [List.append_nil, List.append_nil]; exact h)
  | x :: rest, done, acc, M, hb, h => by
    obtain ⟨o, M1, e, h1⟩ := hb done x rest acc M rfl h
    rw [List.map_cons, lcLoop, if_pos (hg _ _ _ h), e, bnd_some]
    obtain ⟨rs, M2, e2, h2⟩ := w_lc f I hg rest (done ++ [x]) (acc ++ o.toList) (M := M1) (fun dn y r acc M e => hb dn y r acc M (by rw [← e]; simp)) h1
    rw [e2, bnd_some]
    cases o with
    | none => exact WP.intro (by simpa using h2)
    | some y => exact WP.intro (by simpa using h2)
/-- .. that changes nothing -/
theorem w_lcp {α : Type} {body : D → Mem → Option (Option D × Mem)} {g : Option (Nat × MO)} (f : α → D) (h : α → Option D) (hg : still M g = true) : ∀ {xs : List α}, (∀ x ∈ xs, body (f x) M = some (h x, M)) → lcLoop body g (xs.map f) M = some (xs.filterMap h, M)
  | [], _ => by rw [List.map_nil, lcLoop, if_pos hg]; rfl
  | x :: xs, hb => by
    rw [List.map_cons, lcLoop, if_pos hg, hb x List.mem_cons_self, bnd_some, w_lcp f h hg fun y hy => hb y (List.mem_cons_of_mem _ hy), bnd_some, List.filterMap_cons]
    cases h x <;> rfl
/-- .. values of all -/
theorem w_lcm {α : Type} {body : D → Mem → Option (Option D × Mem)} {g : Option (Nat × MO)} (f h : α → D) (hg : still M g = true) {xs : List α} (hb : ∀ x ∈ xs, body (f x) M = some (some (h x), M)) : lcLoop body g (xs.map f) M = some (xs.map h, M) := by
  rw [w_lcp f (fun x => some (h x)) hg hb, List.filterMap_eq_map']
/-- .. those that pass, as h tells -/
theorem w_lcf {α : Type} {body : D → Mem → Option (Option D × Mem)} {g : Option (Nat × MO)} (f h : α → D) (c : α → Bool) (hg : still M g = true) {xs : List α} (hb : ∀ x ∈ xs, body (f x) M = some (if c x = true then some (h x) else none, M)) : lcLoop body g (xs.map f) M = some ((xs.filter c).map h, M) := by
  rw [w_lcp f (fun x => if c x = true then some (h x) else none) hg hb]
  congr 2
  induction xs with
  | nil => rfl
  | cons x xs ih =>
    rw [List.filterMap_cons, List.filter_cons, ih fun y hy => hb y (List.mem_cons_of_mem _ hy)]
    cases c x <;> rfl
theorem lcBodyW {e c : E} {t : Tg} {own : List Nat} {d : D} {v2 : Env} (h : asgT t d (wipeE v own) = some v2) : lcBody cf e t c own v d M = bnd (ev cf c v2 M) (lcBody2 cf e v2) := by
  rw [lcBody_ap, h]
theorem forBodyW {t : Tg} {b : Ss} {d : D} {v2 : Env} (h : asgT t d v = some v2) : forBody cf t b d v M = exs cf b v2 M := by
  rw [forBody_ap, h]
@[simp] theorem asgT_tpW (ts : List Tg) (l : List D) : asgT (.tp ts) (.tup l) v = asgTs ts l v := by rw [asgT]
@[simp] theorem asgTs_nilW : asgTs [] [] v = some v := by rw [asgTs]
def kAsT (ts : List Tg) (l : List D) : Option Env → Option Env
  | some v' => asgTs ts l v'
  | none => none
@[simp] theorem kAsT_some (ts : List Tg) (l : List D) : kAsT ts l (some v) = asgTs ts l v := rfl
@[simp] theorem asgTs_consW (t : Tg) (ts : List Tg) (d : D) (l : List D) : asgTs (t :: ts) (d :: l) v = kAsT ts l (asgT t d v) := by
  rw [asgTs]
  cases asgT t d v <;> rfl
def kFb (cf : Cf) (b : Ss) (M : Mem) : Option Env → Option ((Fl × Env) × Mem)
  | some v => exs cf b v M
  | none => none
@[simp] theorem kFb_some (b : Ss) : kFb cf b M (some v) = exs cf b v M := rfl
@[simp] theorem forBody_W (t : Tg) (b : Ss) (d : D) : forBody cf t b d v M = kFb cf b M (asgT t d v) := by
  rw [forBody_ap]
  cases asgT t d v <;> rfl
def kLb (cf : Cf) (e c : E) (M : Mem) : Option Env → Option (Option D × Mem)
  | some v => bnd (ev cf c v M) (lcBody2 cf e v)
  | none => none
@[simp] theorem kLb_some (e c : E) : kLb cf e c M (some v) = bnd (ev cf c v M) (lcBody2 cf e v) := rfl
@[simp] theorem lcBody_W (e c : E) (t : Tg) (own : List Nat) (d : D) : lcBody cf e t c own v d M = kLb cf e c M (asgT t d (wipeE v own)) := by
  rw [lcBody_ap]
  cases asgT t d (wipeE v own) <;> rfl
def kL3 : A → Mem → Option (Option D × Mem) := fun y M => bnd (toD y M) fun y M => some (some y, M)
@[simp high] theorem lcB2_W (e : E) (b : Bool) : lcBody2 cf e v (.v (.bl b)) M = if b = true then bnd (ev cf e v M) kL3 else some (none, M) := (rfl)
@[simp] theorem kL3_v (d : D) : kL3 (.v d) M = some (some d, M) := (rfl)
@[simp] theorem kL3_l (l : List D) : kL3 (.l l) M = some (some (.ref M.length), M ++ [.lst l]) := (rfl)
@[simp] theorem wipeE_nil : wipeE v [] = v := rfl
@[simp] theorem wipeE_cons (i : Nat) (is : List Nat) : wipeE v (i :: is) = (wipeE v is).set i none := rfl
end
/-! ### kinds of values -/
theorem flat_fit {d : D} (h : Flat d) : ∀ n, Fit n d
  | 0 => h
  | _ + 1 => .inl h
class En (α : Type) where
  en_ : α → D
  dep : Nat
  sh : ∀ a, Sh dep (en_ a)
  nr : ∀ a q, en_ a ≠ .ref q
  small : α → Prop
  fit : ∀ a, small a → Fit dep (en_ a)
def en {α : Type} [En α] (a : α) : D := En.en_ a
/-- that tell apart, as Python does -/
class EnEq (α : Type) [En α] [DecidableEq α] : Prop where
  eqv : ∀ a b : α, PyData.eqv (en a).py (en b).py = decide (a = b)
instance : En Int := ⟨.int, 0, Sh.int 0, fun _ _ h => (nomatch h), fun _ => True, fun i _ => .inr (.inr (.inl ⟨i, rfl⟩))⟩
instance : En Bool := ⟨.bl, 0, Sh.bl 0, fun _ _ h => (nomatch h), fun _ => True, fun i _ => .inr (.inl ⟨i, rfl⟩)⟩
instance : En Nat := ⟨fun n => .int n, 0, fun n => Sh.int 0 n, fun _ _ h => (nomatch h), fun _ => True, fun i _ => .inr (.inr (.inl ⟨i, rfl⟩))⟩
instance {α β : Type} [En α] [En β] : En (α × β) where
  en_ p := .tup [en p.1, en p.2]
  dep := max (En.dep α) (En.dep β) + 1
  sh p := Sh.tup fun d hd => by
    simp at hd
    rcases hd with rfl | rfl
    · exact (En.sh p.1).up (by omega)
    · exact (En.sh p.2).up (by omega)
  nr _ _ h := nomatch h
  small p := En.small p.1 ∧ En.small p.2
  fit p h := .inr ⟨_, rfl, by simp, fun e he => by
    have up : ∀ {m n : Nat} {d : D}, Fit m d → m ≤ n → Fit n d := fun {m n d} => by
      induction m generalizing n d with
      | zero => exact fun h _ => flat_fit h n
      | succ m ih =>
        intro h hl
        obtain ⟨n, rfl⟩ : ∃ z, n = z + 1 := ⟨n - 1, by omega⟩
        rcases h with h | ⟨l, rfl, h1, h2⟩
        · exact .inl h
        · exact .inr ⟨l, rfl, h1, fun e he => ih (h2 e he) (by omega)⟩
    simp at he
    rcases he with rfl | rfl
    · exact up (En.fit _ h.1) (by omega)
    · exact up (En.fit _ h.2) (by omega)⟩
instance {α : Type} [En α] : En (List α) where
  en_ l := .tup (l.map en)
  dep := En.dep α + 1
  sh l := Sh.tup fun d hd => by
    obtain ⟨a, _, rfl⟩ := List.mem_map.mp hd
    exact En.sh a
  nr _ _ h := nomatch h
  small l := l.length ≤ 1000000 ∧ ∀ a ∈ l, En.small a
  fit l h := .inr ⟨_, rfl, by simpa using h.1, fun e he => by
    obtain ⟨a, ha, rfl⟩ := List.mem_map.mp he
    exact En.fit _ (h.2 a ha)⟩
/-- with None beside -/
instance {α : Type} [En α] : En (Option α) where
  en_
    | none => .non
    | some a => en a
  dep := En.dep α
  sh
    | none => Sh.non _
    | some a => En.sh a
  nr
    | none, _, h => nomatch h
    | some a, q, h => En.nr a q h
  small
    | none => True
    | some a => En.small a
  fit
    | none, _ => flat_fit (.inl rfl) _
    | some a, h => En.fit a h
@[simp] theorem en_int (i : Int) : en i = .int i := rfl
@[simp] theorem en_bool (i : Bool) : en i = .bl i := rfl
@[simp] theorem en_nat (i : Nat) : en i = .int i := rfl
@[simp] theorem en_pair {α β : Type} [En α] [En β] (p : α × β) : en p = .tup [en p.1, en p.2] := rfl
@[simp] theorem en_list {α : Type} [En α] (l : List α) : en l = .tup (l.map en) := rfl
@[simp] theorem en_none {α : Type} [En α] : en (none : Option α) = .non := rfl
@[simp] theorem en_some {α : Type} [En α] (a : α) : en (some a) = en a := rfl
theorem en_sh {α : Type} [En α] (a : α) : Sh (En.dep α) (en a) := En.sh a
theorem en_nr {α : Type} [En α] (a : α) (q : Nat) : en a ≠ .ref q := En.nr a q
theorem en_fit {α : Type} [En α] (a : α) (h : En.small a) : Fit (En.dep α) (en a) := En.fit a h
theorem En.pure {α : Type} [En α] (a : α) : (en a).pure = true := (En.sh a).p
theorem En.lo [Tab] {α : Type} [En α] (a : α) (n : Nat) : (en a).lo n = true := pure_lo n _ (En.pure a)
instance : EnEq Int := ⟨fun a b => by rw [Bool.eq_iff_iff]; simp [D.py, PyData.eqv]⟩
instance : EnEq Bool := ⟨fun a b => by rw [Bool.eq_iff_iff]; simp [D.py, PyData.eqv]⟩
instance : EnEq Nat := ⟨fun a b => by rw [Bool.eq_iff_iff]; simp [D.py, PyData.eqv]; omega⟩
instance {α β : Type} [En α] [En β] [DecidableEq α] [DecidableEq β] [EnEq α] [EnEq β] : EnEq (α × β) := ⟨fun a b => by
  have h1 := EnEq.eqv a.1 b.1
  have h2 := EnEq.eqv a.2 b.2
  obtain ⟨a1, a2⟩ := a
  obtain ⟨b1, b2⟩ := b
  show PyData.eqv (D.tup [en a1, en a2]).py (D.tup [en b1, en b2]).py = _
  simp only [D.py, D.pys, PyData.eqv, PyData.eqvAll, h1, h2]
  by_cases c1 : a1 = b1 <;> by_cases c2 : a2 = b2 <;> simp [c1, c2]⟩
theorem eqvAll_en {α : Type} [En α] [DecidableEq α] [EnEq α] : ∀ a b : List α, PyData.eqvAll (D.pys (a.map en)) (D.pys (b.map en)) = decide (a = b)
  | [], [] => by simp [D.pys, PyData.eqvAll]
  | [], _ :: _ => by simp [D.pys, PyData.eqvAll]
  | _ :: _, [] => by simp [D.pys, PyData.eqvAll]
  | x :: a, y :: b => by
    rw [List.map_cons, List.map_cons, D.pys, D.pys, PyData.eqvAll, eqvAll_en a b, EnEq.eqv x y]
    by_cases c1 : x = y <;> by_cases c2 : a = b <;> simp [c1, c2]
instance {α : Type} [En α] [DecidableEq α] [EnEq α] : EnEq (List α) := ⟨fun a b => by
  show PyData.eqv (D.tup (a.map en)).py (D.tup (b.map en)).py = _
  rw [← eqvAll_en a b]
  simp [D.py, PyData.eqv]⟩
section
variable [Tab] {P : List FD} {i k n q : Nat} {cf : Cf} {v : Env} {M M' : Mem}
theorem eqA_en {α : Type} [En α] [DecidableEq α] [EnEq α] (h : En.dep α ≤ 64) (a b : α) : eqA M (.v (en a)) (.v (en b)) = some (decide (a = b)) := by
  rw [eqA_sh (en_sh a) (en_sh b) h (en_nr a) (en_nr b), EnEq.eqv]
theorem eq_en {α : Type} [En α] [DecidableEq α] [EnEq α] (h : En.dep α ≤ 64) (a b : α) : op2 .eq (.v (en a)) (.v (en b)) M = some (.v (.bl (decide (a = b))), M) := op_eq (eqA_en h a b)
theorem ne_en {α : Type} [En α] [DecidableEq α] [EnEq α] (h : En.dep α ≤ 64) (a b : α) : op2 .ne (.v (en a)) (.v (en b)) M = some (.v (.bl (!decide (a = b))), M) := op_ne (eqA_en h a b)
/-- a list against an empty one -/
@[simp] theorem emp_r (n : Nat) : emp M (.v (.ref n)) (.l []) = (rLst (M[n]?)).map List.isEmpty := by
  unfold emp rLst
  dsimp only
  cases M[n]? with
  | none => rfl
  | some o => cases o <;> rfl
theorem eqA_empW {m : Nat} {l : List D} (hq : M[q]? = some (.lst l)) (h : ∀ d ∈ l, Sh m d) (hm : m + 1 ≤ 64) : eqA M (.v (.ref q)) (.l []) = some l.isEmpty := (eqA_ref0 hq).trans (eqA_l0 h hm)
theorem ne_emp {m : Nat} {l : List D} (hq : M[q]? = some (.lst l)) (h : ∀ d ∈ l, Sh m d) (hm : m + 1 ≤ 64) : op2 .ne (.v (.ref q)) (.l []) M = some (.v (.bl (!l.isEmpty)), M) := op_ne (eqA_empW hq h hm)
theorem eq_emp {m : Nat} {l : List D} (hq : M[q]? = some (.lst l)) (h : ∀ d ∈ l, Sh m d) (hm : m + 1 ≤ 64) : op2 .eq (.v (.ref q)) (.l []) M = some (.v (.bl l.isEmpty), M) := op_eq (eqA_empW hq h hm)
theorem ne_empl {m : Nat} {l : List D} (h : ∀ d ∈ l, Sh m d) (hm : m + 1 ≤ 64) : op2 .ne (.l l) (.l []) M = some (.v (.bl (!l.isEmpty)), M) := op_ne (eqA_l0 h hm)
theorem eq_empl {m : Nat} {l : List D} (h : ∀ d ∈ l, Sh m d) (hm : m + 1 ≤ 64) : op2 .eq (.l l) (.l []) M = some (.v (.bl l.isEmpty), M) := op_eq (eqA_l0 h hm)
theorem sh_en {α : Type} [En α] (l : List α) : ∀ d ∈ l.map en, Sh (En.dep α) d := fun d hd => by
  obtain ⟨a, _, rfl⟩ := List.mem_map.mp hd
  exact en_sh a
theorem ne_enl {α : Type} [En α] {l : List α} (hq : M[q]? = some (.lst (l.map en))) (hm : En.dep α + 1 ≤ 64) : op2 .ne (.v (.ref q)) (.l []) M = some (.v (.bl (!l.isEmpty)), M) := by
  rw [ne_emp hq (sh_en l) hm, List.isEmpty_map]
theorem eq_enl {α : Type} [En α] {l : List α} (hq : M[q]? = some (.lst (l.map en))) (hm : En.dep α + 1 ≤ 64) : op2 .eq (.v (.ref q)) (.l []) M = some (.v (.bl l.isEmpty), M) := by
  rw [eq_emp hq (sh_en l) hm, List.isEmpty_map]
@[simp] theorem eq_nl : op2 .eq (.l []) (.l []) M = some (.v (.bl true), M) := eq_empl (m := 0) (fun d h => nomatch h) (by omega)
@[simp] theorem ne_nl : op2 .ne (.l []) (.l []) M = some (.v (.bl false), M) := ne_empl (m := 0) (fun d h => nomatch h) (by omega)
@[simp] theorem eq_bb (a b : Bool) : op2 .eq (.v (.bl a)) (.v (.bl b)) M = some (.v (.bl (decide (a = b))), M) := eq_en (by decide) a b
@[simp] theorem ne_bb (a b : Bool) : op2 .ne (.v (.bl a)) (.v (.bl b)) M = some (.v (.bl (!decide (a = b))), M) := ne_en (by decide) a b
/-! .. the laws' own helpers that compare -/
def bSays : Ss := (.cons (.ret (.and (.isi (.var 0) .bool) (.op .eq (.var 0) (.var 1)))) .nil)
def bSame (j : Nat) : Ss := (.cons (.ite (.isi (.var 1) .tuple) (.cons (.ite (.or (.not (.isi (.var 0) .tuple)) (.op .ne (.bi .len (.cons (.var 0) .nil)) (.bi .len (.cons (.var 1) .nil)))) (.cons (.ret (.cst (.bl false))) .nil) .nil) (.cons (.ret (.op .eq (.lc (.var 2) (.nm 2) (.rng (.cst (.int 0)) (.bi .len (.cons (.var 1) .nil))) (.not (.call j (.cons (.ix (.var 0) (.var 2)) (.cons (.ix (.var 1) (.var 2)) .nil)))) [2]) (.lst .nil))) .nil)) .nil) (.cons (.ite (.op .is (.var 1) (.cst .non)) (.cons (.ret (.op .is (.var 0) (.cst .non))) .nil) .nil) (.cons (.ite (.isi (.var 1) .str) (.cons (.ret (.and (.isi (.var 0) .str) (.op .eq (.var 0) (.var 1)))) .nil) .nil) (.cons (.ret (.and (.isi (.var 0) .int) (.and (.op .eq (.isi (.var 0) .bool) (.isi (.var 1) .bool)) (.op .eq (.var 0) (.var 1))))) .nil))))
theorem says_w (h : P[i]? = some ⟨2, 2, bSays⟩) (b : Bool) : callAt P (k + 1) i [.bl b, .bl b] M = some (.bl true, M) := by
  rw [call_eq h rfl]
  simp [bSays, isTy, fin_self]
theorem same_flat {j : Nat} (h : P[i]? = some ⟨2, 3, bSame j⟩) {d : D} (hd : Flat d) : callAt P (k + 1) i [d, d] M = some (.bl true, M) := by
  rw [call_eq h rfl]
  rcases hd with rfl | ⟨b, rfl⟩ | ⟨z, rfl⟩ | ⟨x, rfl, hx⟩
  · simp [bSame, isTy, fin_self]
  · simp [bSame, isTy, fin_self]
  · simp [bSame, isTy, fin_self]
  · have e : op2 .eq (.v (.str x)) (.v (.str x)) M = some (.v (.bl true), M) := op_eq (by simp [eqA, pyOf, D.pure, D.py, SeqAt.shaped, hx, PyData.depth, PyData.eqv])
    simp [bSame, isTy, fin_self, e]
theorem same_fit (h : P[i]? = some ⟨2, 3, bSame i⟩) : ∀ (n : Nat) (d : D) (M : Mem), Fit n d → callAt P (k + n + 1) i [d, d] M = some (.bl true, M)
  | 0, d, M, hd => same_flat h hd
  | n + 1, d, M, hd => by
    rcases hd with hd | ⟨l, rfl, hl, hs⟩
    · exact same_flat h hd
    · show callAt P (k + n + 1 + 1) i _ _ = _
      rw [call_eq h rfl]
      have ih : ∀ z ∈ l, callAt P (k + n + 1) i [z, z] M = some (.bl true, M) := fun z hz => same_fit h n z M (hs z hz)
      have ok : rOk 0 (l.length : Int) := rOk_of (by omega)
      have hlc : lcLoop (lcBody (cfA P (k + n + 1)) (.var 2) (.nm 2) (.not (.call i (.cons (.ix (.var 0) (.var 2)) (.cons (.ix (.var 1) (.var 2)) .nil)))) [2] [some (D.tup l), some (D.tup l), none]) none (rangeD 0 l.length) M = some ([], M) := by
        rw [lc_pure (fun _ => none) rfl fun e he => ?_]
        · simp
        · obtain ⟨z, rfl, h0, h1⟩ := rangeD_mem he
          have hz : z.toNat < l.length := by omega
          have e1 := atI_pos h0 hz
          simp [e1, ih _ (List.getElem_mem hz)]
      simp [bSame, ok, hlc, fin_self]
theorem same_en {α : Type} [En α] (h : P[i]? = some ⟨2, 3, bSame i⟩) (a : α) (s : En.small a) (hk : En.dep α + 1 ≤ k) : callAt P k i [en a, en a] M = some (.bl true, M) := by
  obtain ⟨z, rfl⟩ : ∃ z, k = z + En.dep α + 1 := ⟨k - (En.dep α + 1), by omega⟩
  exact same_fit h _ _ _ (en_fit a s)
theorem alike_en {α : Type} [En α] (h : P[i]? = some ⟨2, 3, bAlike i⟩) (a : α) (s : En.small a) (hk : En.dep α + 1 ≤ k) : callAt P k i [en a, en a] M = some (.bl true, M) := by
  obtain ⟨z, rfl⟩ : ∃ z, k = z + En.dep α + 1 := ⟨k - (En.dep α + 1), by omega⟩
  exact alike_ok h _ _ _ (en_fit a s)
end
end Ev
namespace Ev
open PySem
/-! ### draws, and how calls end -/
section
variable [Tab] {P : List FD} {i j k n q : Nat} {cf : Cf} {v : Env} {M M' M'' : Mem} {ds : List Int}
theorem Gm.len (g : Gm ds M M') : M.length ≤ M'.length := g.l
theorem Gm.at (g : Gm ds M M') (h : q ≠ 2) {o : MO} (e : M[q]? = some o) : M'[q]? = some o := by
  rw [g.s q h (List.getElem?_eq_some_iff.mp e).1]; exact e
theorem next_W (hn : P[j]? = some ⟨2, 2, bNext⟩) (hd : ds.length ≤ line) (h : WM ds M) {m : Int} (hm : 0 < m) (hk : 1 ≤ k) : ∃ (c : Nat) (M' : Mem), callAt P k j [.ref 2, .int m] M = some (.int c, M') ∧ (c : Int) < m ∧ Gm ds M M' ∧ M'.length = M.length := by
  obtain ⟨k, rfl⟩ : ∃ z, k = z + 1 := ⟨k - 1, by omega⟩
  exact next_m hn hd h hm
theorem pick_R {jn : Nat} (h : P[i]? = some ⟨2, 2, bPick jn⟩) (hn : P[jn]? = some ⟨2, 2, bNext⟩) (hd : ds.length ≤ line) (hw : WM ds M) {xs : List D} (hq : M[q]? = some (.lst xs)) (hx : xs ≠ []) (hp : ∀ d ∈ xs, d.pure = true) (hk : 2 ≤ k) :
    ∃ x M', callAt P k i [.ref 2, .ref q] M = some (x, M') ∧ x ∈ xs ∧ Gm ds M M' ∧ M'.length = M.length := by
  obtain ⟨k, rfl⟩ : ∃ z, k = z + 2 := ⟨k - 2, by omega⟩
  exact pick_m h hn hd hw hq hx (pures_los _ _ (pures_iff.mpr hp))
/-- one of a new list's values -/
theorem pick_W {jn : Nat} (h : P[i]? = some ⟨2, 2, bPick jn⟩) (hn : P[jn]? = some ⟨2, 2, bNext⟩) (hd : ds.length ≤ line) (hw : WM ds M) {xs : List D} (hx : xs ≠ []) (hp : ∀ d ∈ xs, d.pure = true) (hk : 2 ≤ k) :
    ∃ x M', callAt P k i [.ref 2, .ref M.length] (M ++ [.lst xs]) = some (x, M') ∧ x ∈ xs ∧ Gm ds M M' := by
  obtain ⟨x, M', e, hx, g, _⟩ := pick_R (q := M.length) h hn hd (hw.app [.lst xs]) (at_last _) hx hp hk
  exact ⟨x, M', e, hx, (Gm.app hw _).trans g⟩
theorem fin_W {d : D} (hp : d.pure = true) (hw : WM ds M) (g : Gm ds M M') : ∃ X, fin M d M' = (d, X) ∧ Gm ds M X := by
  obtain ⟨X, e, _, g⟩ := fin_gm (G := fun _ _ => True) (fun _ _ _ _ _ => trivial) (d := d) hw g trivial
  exact ⟨X, e, g⟩
/-- a call that gives what is pure and leaves what stood ahead as it was -/
theorem fin_P {d : D} (hp : d.pure = true) (X : Mem) : fin M d (M ++ X) = (d, M) := fin_app (pure_lo _ _ hp)
theorem fin_E {α : Type} [En α] (a : α) (X : Mem) : fin M (en a) (M ++ X) = (en a, M) := fin_P (En.pure a) X
theorem rangeZ (n : Nat) : rangeD 0 (n : Int) = (List.range n).map fun j : Nat => D.int (j : Int) := by
  unfold rangeD
  rw [show ((n : Int) - 0).toNat = n by omega]
  simp
/-- memory that stands behind another -/
theorem app_at (X : Mem) (h : n < M.length) : (M ++ X)[n]? = M[n]? := List.getElem?_append_left h
@[simp] theorem at_here (X : Mem) (o : MO) : (M ++ o :: X)[M.length]? = some o := by
  rw [List.getElem?_append_right (Nat.le_refl _), Nat.sub_self]
  rfl
@[simp] theorem set_here (X : Mem) (o o' : MO) : (M ++ o :: X).set M.length o' = M ++ o' :: X := by
  rw [List.set_append_right _ _ (Nat.le_refl _), Nat.sub_self]
  rfl
theorem set_sameW {o : MO} (h : M[n]? = some o) : M.set n o = M := by
  refine List.ext_getElem? fun j => ?_
  rw [List.getElem?_set]
  by_cases c : n = j
  · subst c
    rw [if_pos rfl, if_pos (List.getElem?_eq_some_iff.mp h).1, h]
  · rw [if_neg c]
/-! .. stuck at a loop -/
theorem bnd_bnd {α β γ : Type} (x : Option (α × Mem)) (f : α → Mem → Option (β × Mem)) (g : β → Mem → Option γ) : bnd (bnd x f) g = bnd x fun a M => bnd (f a M) g := by
  cases x <;> rfl
theorem of_WP {α : Type} {x : Option (α × Mem)} {a : α} {M : Mem} (h : WP x fun b M' => some (b, M') = some (a, M)) : x = some (a, M) := by
  obtain ⟨b, M', e, h⟩ := h
  rw [e, h]
/-- what is then true, out of simp's sight -/
theorem WP.hide {α : Type} {x : Option (α × Mem)} {Q : α → Mem → Prop} (h : ∀ Q' : α → Mem → Prop, (∀ a M, Q a M → Q' a M) → WP x Q') : WP x Q := h Q fun _ _ h => h
theorem WP.fin {α : Type} {a : α} {M : Mem} {Q Q' : α → Mem → Prop} (hQ : ∀ a M, Q a M → Q' a M) (h : Q a M) : WP (some (a, M)) Q' := WP.intro (hQ _ _ h)
theorem w_forW {α : Type} {b : D → Env → Mem → Option ((Fl × Env) × Mem)} {g : Option (Nat × MO)} (f : α → D) (I : List α → Env → Mem → Prop) (hg : ∀ done v M, I done v M → still M g = true) (xs : List α) {v : Env} {M : Mem}
    (h : I [] v M) (hb : ∀ dn x r v M, xs = dn ++ x :: r → I dn v M → WP (b (f x) v M) fun r M' => r.1 = .nx ∧ I (dn ++ [x]) r.2 M') :
    WP (forL b g (xs.map f) v M) fun r M' => ∃ v', r = (.nx, v') ∧ I xs v' M' := by
  obtain ⟨v', M', e, hi⟩ := w_for f I hg xs hb h
  exact ⟨_, M', e, v', rfl, hi⟩
end
end Ev
namespace Ev
open PySem PySem.W
/-! ### tuples of ints sort by their ints -/
def lexI : List Int → List Int → Bool
  | [], [] => false
  | [], _ :: _ => true
  | _ :: _, [] => false
  | x :: r, y :: t => decide (x < y) || (!decide (y < x) && lexI r t)
def tI (l : List Int) : D := .tup (l.map D.int)
theorem toks_all : ∀ l : List Int, keyToksAll (D.pys (l.map D.int)) = l.foldr (fun i r => .inl 1 :: .inl i :: r) [.inl 0]
  | [] => by rw [List.map_nil, D.pys, keyToksAll]; rfl
  | i :: l => by rw [List.map_cons, D.pys, keyToksAll, toks_all l, D.py, keyToks]; rfl
theorem lex_toks : ∀ a b : List Int, PyProof.Rows.lexLt PyProof.Rows.itemOrd (a.foldr (fun i r => .inl 1 :: .inl i :: r) [.inl 0]) (b.foldr (fun i r => .inl 1 :: .inl i :: r) [.inl 0]) = lexI a b
  | [], [] => by simp [PyProof.Rows.lexLt, lexI, PyProof.Rows.itemLt]
  | [], _ :: _ => by simp [PyProof.Rows.lexLt, lexI, PyProof.Rows.itemLt]
  | _ :: _, [] => by simp [PyProof.Rows.lexLt, lexI, PyProof.Rows.itemLt]
  | x :: a, y :: b => by
    have ih := lex_toks a b
    rw [List.foldr_cons, List.foldr_cons, lexI]
    rw [← ih]
    simp [PyProof.Rows.lexLt, PyProof.Rows.itemLt]
theorem le_ints (a b : List Int) : dataLe false D.py (tI a) (tI b) = !lexI b a := by
  show (!(PyProof.Rows.lexLt PyProof.Rows.itemOrd (keyToks (tI b).py) (keyToks (tI a).py))) = _
  rw [← lex_toks]
  unfold tI
  rw [D.py, D.py, keyToks, keyToks, toks_all, toks_all]
end Ev
namespace Ev
open PySem PySem.W
theorem sortOk_tups [Tab] {ds : List D} {n : Nat} (hn : n ≤ 60) (h1 : ∀ d ∈ ds, Sh n d) (h2 : ∀ a ∈ ds, ∀ b ∈ ds, PySem.W.alike a.py b.py = true) (h3 : ∀ d ∈ ds, ∃ a l, d = .tup (a :: l)) : sortOk ds = true := by
  have ha : alikes (ds.map D.py) = true := by
    have : ∀ xs : List D, (∀ a ∈ xs, ∀ b ∈ xs, PySem.W.alike a.py b.py = true) → alikes (xs.map D.py) = true := fun xs => by
      induction xs with
      | nil => intro _; rfl
      | cons r xs ih =>
        intro h
        rw [List.map_cons, alikes, ih fun a ha b hb => h a (List.mem_cons_of_mem _ ha) b (List.mem_cons_of_mem _ hb), Bool.and_true, Bool.and_eq_true, List.all_eq_true]
        refine ⟨fun z hz => ?_, h r List.mem_cons_self r List.mem_cons_self⟩
        obtain ⟨d, hd, rfl⟩ := List.mem_map.mp hz
        rw [h r List.mem_cons_self d (List.mem_cons_of_mem _ hd), h d (List.mem_cons_of_mem _ hd) r List.mem_cons_self]
        rfl
    exact this ds h2
  unfold sortOk
  rw [pures_iff.mpr fun d hd => (h1 d hd).p, pys_map, ha, Bool.true_and, Bool.true_and, Bool.and_eq_true]
  refine ⟨?_, ?_⟩
  · rw [Bool.or_eq_true]
    refine .inl (List.all_eq_true.mpr fun x hx => ?_)
    obtain ⟨d, hd, rfl⟩ := List.mem_map.mp hx
    obtain ⟨a, l, rfl⟩ := h3 d hd
    rfl
  · rw [List.all_eq_true]
    intro x hx
    obtain ⟨d, hd, rfl⟩ := List.mem_map.mp hx
    exact decide_eq_true (Nat.le_trans (h1 d hd).t (by omega))
def leP (p q : Int × Int) : Bool := !lexI [q.1, q.2] [p.1, p.2]
theorem leP_iff (p q : Int × Int) : leP p q = true ↔ p.1 < q.1 ∨ (p.1 = q.1 ∧ p.2 ≤ q.2) := by
  unfold leP
  simp [lexI]
  omega
def sortP (l : List (Int × Int)) : List (Int × Int) := l.mergeSort leP
theorem sortD_pairs (l : List (Int × Int)) : sortD (l.map qD) = (sortP l).map qD := by
  unfold sortD sortP
  rw [List.map_mergeSort]
  intro a _ b _
  exact (le_ints [a.1, a.2] [b.1, b.2]).symm
theorem sortP_perm (l : List (Int × Int)) : (sortP l).Perm l := List.mergeSort_perm _ _
theorem sortP_pw (l : List (Int × Int)) : (sortP l).Pairwise fun p q => p.1 ≤ q.1 := by
  have := List.pairwise_mergeSort (le := leP) (fun a b c h1 h2 => by rw [leP_iff] at *; omega) (fun a b => by rw [Bool.or_eq_true, leP_iff, leP_iff]; omega) l
  exact this.imp fun h => by rw [leP_iff] at h; omega
theorem sortOk_pairs [Tab] (l : List (Int × Int)) : sortOk (l.map qD) = true := by
  refine sortOk_tups (n := 1) (by omega) (fun d hd => ?_) (fun a ha b hb => ?_) (fun d hd => ?_)
  · obtain ⟨p, _, rfl⟩ := List.mem_map.mp hd
    exact qD_sh p
  · obtain ⟨p, _, rfl⟩ := List.mem_map.mp ha
    obtain ⟨q, _, rfl⟩ := List.mem_map.mp hb
    simp [qD, D.py, D.pys, alike, alikeAll]
  · obtain ⟨p, _, rfl⟩ := List.mem_map.mp hd
    exact ⟨_, _, rfl⟩
/-! ### sets of spans -/
def InS (l : List (Int × Int)) (t : Int) : Prop := ∃ p ∈ l, p.1 ≤ t ∧ t < p.2
structure Nrm (l : List (Int × Int)) : Prop where
  pos : ∀ p ∈ l, p.1 < p.2
  gap : l.Pairwise fun p q => p.2 < q.1
def stepS (found : List (Int × Int)) (p : Int × Int) : List (Int × Int) := match found.getLast? with
  | some la => if p.1 ≤ la.2 then found.dropLast ++ [(la.1, if p.2 > la.2 then p.2 else la.2)] else found ++ [p]
  | none => [p]
def mergeS (ps : List (Int × Int)) : List (Int × Int) := ps.foldl stepS []
theorem inS_app (a b : List (Int × Int)) (t : Int) : InS (a ++ b) t ↔ InS a t ∨ InS b t := by
  unfold InS
  constructor
  · rintro ⟨p, hp, h⟩
    rcases List.mem_append.mp hp with hp | hp
    · exact .inl ⟨p, hp, h⟩
    · exact .inr ⟨p, hp, h⟩
  · rintro (⟨p, hp, h⟩ | ⟨p, hp, h⟩)
    · exact ⟨p, List.mem_append_left _ hp, h⟩
    · exact ⟨p, List.mem_append_right _ hp, h⟩
theorem inS_one (p : Int × Int) (t : Int) : InS [p] t ↔ p.1 ≤ t ∧ t < p.2 := by
  unfold InS
  constructor
  · rintro ⟨q, hq, h⟩
    rw [List.mem_singleton.mp hq] at h; exact h
  · exact fun h => ⟨p, List.mem_singleton.mpr rfl, h⟩
theorem inS_perm {a b : List (Int × Int)} (h : a.Perm b) (t : Int) : InS a t ↔ InS b t := by
  unfold InS
  exact ⟨fun ⟨p, hp, e⟩ => ⟨p, h.mem_iff.mp hp, e⟩, fun ⟨p, hp, e⟩ => ⟨p, h.mem_iff.mpr hp, e⟩⟩
theorem inS_nil (t : Int) : ¬ InS [] t := fun ⟨_, h, _⟩ => nomatch h
theorem nrm_snoc {l : List (Int × Int)} {p : Int × Int} : Nrm (l ++ [p]) ↔ Nrm l ∧ p.1 < p.2 ∧ ∀ q ∈ l, q.2 < p.1 := by
  constructor
  · rintro ⟨h1, h2⟩
    rw [List.pairwise_append] at h2
    exact ⟨⟨fun q hq => h1 q (List.mem_append_left _ hq), h2.1⟩, h1 p (by simp), fun q hq => h2.2.2 q hq p (by simp)⟩
  · rintro ⟨⟨h1, h2⟩, h3, h4⟩
    refine ⟨fun q hq => ?_, ?_⟩
    · rcases List.mem_append.mp hq with hq | hq
      · exact h1 q hq
      · rw [List.mem_singleton.mp hq]; exact h3
    · rw [List.pairwise_append]
      exact ⟨h2, List.pairwise_singleton _ _, fun q hq r hr => by rw [List.mem_singleton.mp hr]; exact h4 q hq⟩
theorem stepS_ok {found : List (Int × Int)} {p : Int × Int} (hn : Nrm found) (hp : p.1 < p.2) (hb : ∀ q ∈ found, q.1 ≤ p.1) : Nrm (stepS found p) ∧ (∀ t, InS (stepS found p) t ↔ InS found t ∨ (p.1 ≤ t ∧ t < p.2)) ∧ ∀ b, p.1 ≤ b → ∀ q ∈ stepS found p, q.1 ≤ b := by
  rcases List.eq_nil_or_concat found with rfl | ⟨init, la, rfl⟩
  · refine ⟨?_, fun t => ?_, fun b hpb q hq => ?_⟩
    · show Nrm ([] ++ [p])
      exact nrm_snoc.mpr ⟨hn, hp, fun q h => nomatch h⟩
    · show InS [p] t ↔ _
      rw [inS_one]
      exact ⟨.inr, fun h => h.elim (fun h => (inS_nil t h).elim) id⟩
    · have hq : q ∈ [p] := hq
      rw [List.mem_singleton.mp hq]; exact hpb
  · rw [List.concat_eq_append] at hn hb ⊢
    obtain ⟨n1, n2, n3⟩ := nrm_snoc.mp hn
    have hla := hb la (by simp)
    unfold stepS
    rw [List.getLast?_concat]
    dsimp only
    by_cases c : p.1 ≤ la.2
    · rw [if_pos c, List.dropLast_concat]
      refine ⟨nrm_snoc.mpr ⟨n1, by split <;> (dsimp only; omega), fun q hq => n3 q hq⟩, fun t => ?_, fun b hpb q hq => ?_⟩
      · rw [inS_app, inS_app, inS_one, inS_one]
        dsimp only
        split
        · constructor
          · rintro (h | h)
            · exact .inl (.inl h)
            · by_cases c2 : t < la.2
              · exact .inl (.inr ⟨h.1, c2⟩)
              · exact .inr (by omega)
          · rintro ((h | h) | h)
            · exact .inl h
            · exact .inr (by omega)
            · exact .inr (by omega)
        · constructor
          · rintro (h | h)
            · exact .inl (.inl h)
            · exact .inl (.inr h)
          · rintro ((h | h) | h)
            · exact .inl h
            · exact .inr h
            · exact .inr (by omega)
      · rcases List.mem_append.mp hq with hq | hq
        · have := hb q (List.mem_append_left _ hq); omega
        · rw [List.mem_singleton.mp hq]; dsimp only; omega
    · rw [if_neg c]
      refine ⟨nrm_snoc.mpr ⟨hn, hp, fun q hq => ?_⟩, fun t => by rw [inS_app, inS_one], fun b hpb q hq => ?_⟩
      · rcases List.mem_append.mp hq with hq | hq
        · have := n3 q hq; omega
        · rw [List.mem_singleton.mp hq]; omega
      · rcases List.mem_append.mp hq with hq | hq
        · have := hb q hq; omega
        · rw [List.mem_singleton.mp hq]; exact hpb
theorem merge_from : ∀ (ps found : List (Int × Int)), Nrm found → (∀ p ∈ ps, p.1 < p.2) → (ps.Pairwise fun p q => p.1 ≤ q.1) → (∀ q ∈ found, ∀ p ∈ ps, q.1 ≤ p.1) → Nrm (ps.foldl stepS found) ∧ ∀ t, InS (ps.foldl stepS found) t ↔ InS found t ∨ InS ps t
  | [], found, hn, _, _, _ => ⟨hn, fun t => ⟨.inl, fun h => h.elim id fun h => (inS_nil t h).elim⟩⟩
  | p :: ps, found, hn, hp, hw, hb => by
    obtain ⟨w1, w2⟩ := List.pairwise_cons.mp hw
    obtain ⟨s1, s2, s3⟩ := stepS_ok hn (hp p List.mem_cons_self) fun q hq => hb q hq p List.mem_cons_self
    obtain ⟨r1, r2⟩ := merge_from ps (stepS found p) s1 (fun q hq => hp q (List.mem_cons_of_mem _ hq)) w2 fun q hq r hr => s3 r.1 (w1 r hr) q hq
    refine ⟨r1, fun t => ?_⟩
    rw [List.foldl_cons, r2 t, s2 t, show (p :: ps) = [p] ++ ps from rfl, inS_app, inS_one, or_assoc]
theorem merge_ok {ps : List (Int × Int)} (hp : ∀ p ∈ ps, p.1 < p.2) (hw : ps.Pairwise fun p q => p.1 ≤ q.1) : Nrm (mergeS ps) ∧ ∀ t, InS (mergeS ps) t ↔ InS ps t := by
  obtain ⟨h1, h2⟩ := merge_from ps [] ⟨fun p h => (nomatch h), List.Pairwise.nil⟩ hp hw fun q h => nomatch h
  exact ⟨h1, fun t => (h2 t).trans ⟨fun h => h.elim (fun h => (inS_nil t h).elim) id, .inr⟩⟩
theorem nrm_cons {p : Int × Int} {l : List (Int × Int)} (h : Nrm (p :: l)) : Nrm l ∧ p.1 < p.2 ∧ ∀ t, InS l t → p.2 < t := by
  obtain ⟨h1, h2⟩ := h
  obtain ⟨g1, g2⟩ := List.pairwise_cons.mp h2
  exact ⟨⟨fun q hq => h1 q (List.mem_cons_of_mem _ hq), g2⟩, h1 p List.mem_cons_self, fun t ⟨q, hq, e1, _⟩ => by have := g1 q hq; omega⟩
theorem inS_cons (p : Int × Int) (l : List (Int × Int)) (t : Int) : InS (p :: l) t ↔ (p.1 ≤ t ∧ t < p.2) ∨ InS l t := by
  rw [show (p :: l) = [p] ++ l from rfl, inS_app, inS_one]
theorem nrm_uniq : ∀ {a b : List (Int × Int)}, Nrm a → Nrm b → (∀ t, InS a t ↔ InS b t) → a = b
  | [], [], _, _, _ => rfl
  | [], q :: m, _, hb, h => by
    obtain ⟨_, h2, _⟩ := nrm_cons hb
    exact ((inS_nil q.1) ((h q.1).mpr ((inS_cons q m q.1).mpr (.inl ⟨Int.le_refl _, h2⟩)))).elim
  | p :: l, [], ha, _, h => by
    obtain ⟨_, h2, _⟩ := nrm_cons ha
    exact ((inS_nil p.1) ((h p.1).mp ((inS_cons p l p.1).mpr (.inl ⟨Int.le_refl _, h2⟩)))).elim
  | p :: l, q :: m, ha, hb, h => by
    obtain ⟨a1, a2, a3⟩ := nrm_cons ha
    obtain ⟨b1, b2, b3⟩ := nrm_cons hb
    have lo : ∀ t, InS (p :: l) t → p.1 ≤ t := fun t ht => ((inS_cons p l t).mp ht).elim (fun x => x.1) fun x => by have := a3 t x; omega
    have lo2 : ∀ t, InS (q :: m) t → q.1 ≤ t := fun t ht => ((inS_cons q m t).mp ht).elim (fun x => x.1) fun x => by have := b3 t x; omega
    have e1 : p.1 = q.1 := by
      have x := lo2 p.1 ((h p.1).mp ((inS_cons p l p.1).mpr (.inl ⟨Int.le_refl _, a2⟩)))
      have y := lo q.1 ((h q.1).mpr ((inS_cons q m q.1).mpr (.inl ⟨Int.le_refl _, b2⟩)))
      omega
    have e2 : p.2 = q.2 := by
      rcases Int.lt_trichotomy p.2 q.2 with c | c | c
      · have := (h p.2).mpr ((inS_cons q m p.2).mpr (.inl ⟨by omega, c⟩))
        rcases (inS_cons p l p.2).mp this with x | x
        · omega
        · have := a3 _ x; omega
      · exact c
      · have := (h q.2).mp ((inS_cons p l q.2).mpr (.inl ⟨by omega, c⟩))
        rcases (inS_cons q m q.2).mp this with x | x
        · omega
        · have := b3 _ x; omega
    have e : p = q := Prod.ext e1 e2
    subst e
    rw [nrm_uniq a1 b1 fun t => ⟨fun x => ?_, fun x => ?_⟩]
    · rcases (inS_cons p m t).mp ((h t).mp ((inS_cons p l t).mpr (.inr x))) with y | y
      · have := a3 t x; omega
      · exact y
    · rcases (inS_cons p l t).mp ((h t).mpr ((inS_cons p m t).mpr (.inr x))) with y | y
      · have := b3 t x; omega
      · exact y
def spansOf (l : List (Int × Int)) : List (Int × Int) := mergeS (sortP l)
def setOf (ms : List Int) : List (Int × Int) := mergeS ((sortI ms).map fun t => (t, t + 1))
theorem spansOf_ok {l : List (Int × Int)} (h : ∀ p ∈ l, p.1 < p.2) : Nrm (spansOf l) ∧ ∀ t, InS (spansOf l) t ↔ InS l t := by
  obtain ⟨h1, h2⟩ := merge_ok (ps := sortP l) (fun p hp => h p ((sortP_perm l).mem_iff.mp hp)) (sortP_pw l)
  exact ⟨h1, fun t => (h2 t).trans (inS_perm (sortP_perm l) t)⟩
theorem sortI_pw (ms : List Int) : (sortI ms).Pairwise (· ≤ ·) := by
  have := List.pairwise_mergeSort (le := fun a b : Int => decide (a ≤ b)) (fun a b c h1 h2 => by simp only [decide_eq_true_eq] at *; omega) (fun a b => by rw [Bool.or_eq_true, decide_eq_true_eq, decide_eq_true_eq]; omega) ms
  exact this.imp fun h => of_decide_eq_true h
theorem setOf_ok (ms : List Int) : Nrm (setOf ms) ∧ ∀ t, InS (setOf ms) t ↔ t ∈ ms := by
  obtain ⟨h1, h2⟩ := merge_ok (ps := (sortI ms).map fun t => (t, t + 1)) (fun p hp => by
    obtain ⟨t, _, rfl⟩ := List.mem_map.mp hp
    dsimp only; omega) (List.pairwise_map.mpr (sortI_pw ms))
  refine ⟨h1, fun t => (h2 t).trans ⟨fun ⟨p, hp, e1, e2⟩ => ?_, fun h => ⟨(t, t + 1), ?_, Int.le_refl _, by dsimp only; omega⟩⟩⟩
  · obtain ⟨u, hu, rfl⟩ := List.mem_map.mp hp
    dsimp only at e1 e2
    have : t = u := by omega
    subst this
    exact (List.mergeSort_perm ms _).mem_iff.mp hu
  · exact List.mem_map.mpr ⟨t, (List.mergeSort_perm ms _).mem_iff.mpr h, rfl⟩
theorem spans_set {l : List (Int × Int)} {ms : List Int} (h : ∀ p ∈ l, p.1 < p.2) (e : ∀ t, InS l t ↔ t ∈ ms) : spansOf l = setOf ms := by
  obtain ⟨h1, h2⟩ := spansOf_ok h
  obtain ⟨g1, g2⟩ := setOf_ok ms
  exact nrm_uniq h1 g1 fun t => (h2 t).trans ((e t).trans (g2 t).symm)
end Ev
namespace Ev
open PySem
def rngI (a b : Int) : List Int := (List.range (b - a).toNat).map fun k : Nat => a + (k : Int)
theorem mem_rng {a b t : Int} : t ∈ rngI a b ↔ a ≤ t ∧ t < b := by
  unfold rngI
  rw [List.mem_map]
  constructor
  · rintro ⟨k, hk, rfl⟩
    have := List.mem_range.mp hk
    omega
  · rintro ⟨h1, h2⟩
    exact ⟨(t - a).toNat, List.mem_range.mpr (by omega), by omega⟩
theorem rng_nodup (a b : Int) : (rngI a b).Nodup := by
  unfold rngI
  refine List.Pairwise.map _ (fun x y h => ?_) List.nodup_range
  intro e
  exact h (by omega)
theorem rng_length (a b : Int) : (rngI a b).length = (b - a).toNat := by simp [rngI]
def momStep (f : List Int) (p : Int × Int) : List Int := f ++ (rngI p.1 p.2).filter fun t => decide (t ∉ f)
def moms (l : List (Int × Int)) : List Int := l.foldl momStep []
theorem moms_from : ∀ (l : List (Int × Int)) (f : List Int), f.Nodup → (l.foldl momStep f).Nodup ∧ ∀ t, t ∈ l.foldl momStep f ↔ t ∈ f ∨ InS l t
  | [], f, h => ⟨h, fun t => ⟨.inl, fun x => x.elim id fun y => (inS_nil t y).elim⟩⟩
  | p :: l, f, h => by
    have h2 : (momStep f p).Nodup := by
      unfold momStep
      rw [List.nodup_append]
      refine ⟨h, (rng_nodup _ _).filter _, fun a ha b hb e => ?_⟩
      subst e
      exact of_decide_eq_true (List.mem_filter.mp hb).2 ha
    obtain ⟨r1, r2⟩ := moms_from l (momStep f p) h2
    refine ⟨r1, fun t => ?_⟩
    rw [List.foldl_cons, r2 t, inS_cons, ← or_assoc]
    have : t ∈ momStep f p ↔ t ∈ f ∨ (p.1 ≤ t ∧ t < p.2) := by
      unfold momStep
      rw [List.mem_append, List.mem_filter, mem_rng, decide_eq_true_eq]
      constructor
      · rintro (h | ⟨h, _⟩)
        · exact .inl h
        · exact .inr h
      · rintro (h | h)
        · exact .inl h
        · by_cases c : t ∈ f
          · exact .inl c
          · exact .inr ⟨h, c⟩
    rw [this]
theorem moms_ok (l : List (Int × Int)) : (moms l).Nodup ∧ ∀ t, t ∈ moms l ↔ InS l t := by
  obtain ⟨h1, h2⟩ := moms_from l [] List.nodup_nil
  exact ⟨h1, fun t => (h2 t).trans ⟨fun x => x.elim (fun y => nomatch y) id, .inr⟩⟩
/-! .. how many -/
def lenS (l : List (Int × Int)) : Int := (l.map fun p => p.2 - p.1).sum
def catS (l : List (Int × Int)) : List Int := l.flatMap fun p => rngI p.1 p.2
theorem mem_cat (l : List (Int × Int)) (t : Int) : t ∈ catS l ↔ InS l t := by
  unfold catS InS
  rw [List.mem_flatMap]
  exact ⟨fun ⟨p, hp, h⟩ => ⟨p, hp, mem_rng.mp h⟩, fun ⟨p, hp, h⟩ => ⟨p, hp, mem_rng.mpr h⟩⟩
theorem cat_ok : ∀ {l : List (Int × Int)}, Nrm l → (catS l).Nodup ∧ ((catS l).length : Int) = lenS l
  | [], _ => ⟨List.nodup_nil, rfl⟩
  | p :: l, h => by
    obtain ⟨h1, h2, h3⟩ := nrm_cons h
    obtain ⟨r1, r2⟩ := cat_ok h1
    have e : catS (p :: l) = rngI p.1 p.2 ++ catS l := List.flatMap_cons
    rw [e]
    refine ⟨?_, ?_⟩
    · rw [List.nodup_append]
      refine ⟨rng_nodup _ _, r1, fun a ha b hb e => ?_⟩
      subst e
      have := h3 a ((mem_cat l a).mp hb)
      have := (mem_rng.mp ha).2
      omega
    · rw [List.length_append, rng_length]
      unfold lenS at r2 ⊢
      rw [List.map_cons, List.sum_cons, ← r2]
      omega
theorem len_ok {l : List (Int × Int)} {ms : List Int} (h : Nrm l) (hn : ms.Nodup) (e : ∀ t, t ∈ ms ↔ InS l t) : lenS l = (ms.length : Nat) := by
  obtain ⟨h1, h2⟩ := cat_ok h
  have := ((List.perm_ext_iff_of_nodup hn h1).mpr fun t => (e t).trans (mem_cat l t).symm).length_eq
  rw [this, h2]
/-! .. both -/
def mx2 (x y : Int) : Int := if y > x then y else x
def mn2 (x y : Int) : Int := if y < x then y else x
def meet1 (p q : Int × Int) : Option (Int × Int) := if mx2 p.1 q.1 < mn2 p.2 q.2 then some (mx2 p.1 q.1, mn2 p.2 q.2) else none
def andL (a b : List (Int × Int)) : List (Int × Int) := a.flatMap fun p => b.filterMap (meet1 p)
theorem mx2_spec (x y : Int) : x ≤ mx2 x y ∧ y ≤ mx2 x y ∧ (mx2 x y = x ∨ mx2 x y = y) := by
  unfold mx2; split <;> omega
theorem mn2_spec (x y : Int) : mn2 x y ≤ x ∧ mn2 x y ≤ y ∧ (mn2 x y = x ∨ mn2 x y = y) := by
  unfold mn2; split <;> omega
theorem meet1_ok (p q r : Int × Int) (h : meet1 p q = some r) : r.1 < r.2 ∧ ∀ t, (r.1 ≤ t ∧ t < r.2) ↔ (p.1 ≤ t ∧ t < p.2) ∧ (q.1 ≤ t ∧ t < q.2) := by
  have h1 := mx2_spec p.1 q.1
  have h2 := mn2_spec p.2 q.2
  unfold meet1 at h
  split at h
  · rename_i c
    cases h
    exact ⟨c, fun t => by dsimp only; omega⟩
  · cases h
theorem meet1_none (p q : Int × Int) (h : meet1 p q = none) (t : Int) : ¬ ((p.1 ≤ t ∧ t < p.2) ∧ (q.1 ≤ t ∧ t < q.2)) := by
  have h1 := mx2_spec p.1 q.1
  have h2 := mn2_spec p.2 q.2
  unfold meet1 at h
  split at h
  · cases h
  · omega
theorem and_ok (a b : List (Int × Int)) : (∀ r ∈ andL a b, r.1 < r.2) ∧ ∀ t, InS (andL a b) t ↔ InS a t ∧ InS b t := by
  unfold andL
  refine ⟨fun r hr => ?_, fun t => ⟨fun ⟨r, hr, h⟩ => ?_, fun ⟨⟨p, hp, h1⟩, ⟨q, hq, h2⟩⟩ => ?_⟩⟩
  · obtain ⟨p, hp, h⟩ := List.mem_flatMap.mp hr
    obtain ⟨q, hq, h⟩ := List.mem_filterMap.mp h
    exact (meet1_ok p q r h).1
  · obtain ⟨p, hp, h'⟩ := List.mem_flatMap.mp hr
    obtain ⟨q, hq, h'⟩ := List.mem_filterMap.mp h'
    obtain ⟨x, y⟩ := ((meet1_ok p q r h').2 t).mp h
    exact ⟨⟨p, hp, x⟩, ⟨q, hq, y⟩⟩
  · cases e : meet1 p q with
    | none => exact (meet1_none p q e t ⟨h1, h2⟩).elim
    | some r => exact ⟨r, List.mem_flatMap.mpr ⟨p, hp, List.mem_filterMap.mpr ⟨q, hq, e⟩⟩, ((meet1_ok p q r e).2 t).mpr ⟨h1, h2⟩⟩
/-! .. less -/
def stepL (e : Int) (st : Int × List (Int × Int)) (q : Int × Int) : Int × List (Int × Int) :=
  if q.1 < e ∧ st.1 < q.2 then (mx2 st.1 q.2, if st.1 < q.1 then st.2 ++ [(st.1, q.1)] else st.2) else st
def endL (e : Int) (st : Int × List (Int × Int)) : List (Int × Int) := if st.1 < e then st.2 ++ [(st.1, e)] else st.2
def lessT (b : List (Int × Int)) (found : List (Int × Int)) (p : Int × Int) : List (Int × Int) := endL p.2 (b.foldl (stepL p.2) (p.1, found))
def lessL (a b : List (Int × Int)) : List (Int × Int) := a.foldl (lessT b) []
theorem less_in {b0 e : Int} : ∀ (bs pre : List (Int × Int)) (c : Int) (found new : List (Int × Int)), Nrm (pre ++ bs) → b0 ≤ c → (∀ p ∈ new, p.1 < p.2) → (∀ t, InS new t ↔ (b0 ≤ t ∧ t < e ∧ t < c) ∧ ¬ InS pre t) → (∀ t, c ≤ t → t < e → ¬ InS pre t) → (c = b0 ∨ ∀ q ∈ bs, c < q.1) →
    ∃ c' new', bs.foldl (stepL e) (c, found ++ new) = (c', found ++ new') ∧ b0 ≤ c' ∧ (∀ p ∈ new', p.1 < p.2) ∧ (∀ t, InS new' t ↔ (b0 ≤ t ∧ t < e ∧ t < c') ∧ ¬ InS (pre ++ bs) t) ∧ ∀ t, c' ≤ t → t < e → ¬ InS (pre ++ bs) t
  | [], pre, c, found, new, _, h0, hp, h1, h2, _ => ⟨c, new, rfl, h0, hp, by rw [List.append_nil]; exact h1, by rw [List.append_nil]; exact h2⟩
  | q :: bs, pre, c, found, new, hn, h0, hp, h1, h2, h3 => by
    have hq : q.1 < q.2 := hn.pos q (by simp)
    have hgap : ∀ r ∈ bs, q.2 < r.1 := fun r hr => by
      have := (List.pairwise_append.mp hn.gap).2.1
      exact (List.pairwise_cons.mp this).1 r hr
    have hn' : Nrm ((pre ++ [q]) ++ bs) := by rw [List.append_assoc]; exact hn
    have hin : ∀ t, InS (pre ++ [q]) t ↔ InS pre t ∨ (q.1 ≤ t ∧ t < q.2) := fun t => by rw [inS_app, inS_one]
    rw [List.foldl_cons]
    have e2 : pre ++ q :: bs = (pre ++ [q]) ++ bs := by simp
    rw [e2]
    unfold stepL
    dsimp only
    by_cases c1 : q.1 < e ∧ c < q.2
    · rw [if_pos c1]
      have hm : mx2 c q.2 = q.2 := if_pos c1.2
      rw [hm]
      by_cases c2 : c < q.1
      · rw [if_pos c2, List.append_assoc]
        refine less_in bs (pre ++ [q]) q.2 found (new ++ [(c, q.1)]) hn' (by omega) (fun p hp' => ?_) (fun t => ?_) (fun t ht hte hc => ?_) (.inr hgap)
        · rcases List.mem_append.mp hp' with hp' | hp'
          · exact hp p hp'
          · rw [List.mem_singleton.mp hp']; exact c2
        · rw [inS_app, inS_one, h1 t, hin t]
          dsimp only
          constructor
          · rintro (⟨⟨x1, x2, x3⟩, x4⟩ | ⟨x1, x2⟩)
            · exact ⟨⟨x1, x2, by omega⟩, fun y => y.elim x4 fun y => by omega⟩
            · exact ⟨⟨by omega, by omega, by omega⟩, fun y => y.elim (h2 t x1 (by omega)) fun y => by omega⟩
          · rintro ⟨⟨x1, x2, x3⟩, x4⟩
            by_cases c3 : t < c
            · exact .inl ⟨⟨x1, x2, c3⟩, fun y => x4 (.inl y)⟩
            · refine .inr ⟨by omega, ?_⟩
              by_cases c4 : t < q.1
              · exact c4
              · exact (x4 (.inr ⟨by omega, by omega⟩)).elim
        · rcases (hin t).mp hc with y | y
          · exact h2 t (by omega) hte y
          · omega
      · rw [if_neg c2]
        have hcb : c = b0 := h3.elim id fun z => absurd (z q List.mem_cons_self) c2
        refine less_in bs (pre ++ [q]) q.2 found new hn' (by omega) hp (fun t => ?_) (fun t ht hte hc => ?_) (.inr hgap)
        · rw [h1 t, hin t]
          constructor
          · rintro ⟨⟨x1, x2, x3⟩, x4⟩
            omega
          · rintro ⟨⟨x1, x2, x3⟩, x4⟩
            exact (x4 (.inr ⟨by omega, x3⟩)).elim
        · rcases (hin t).mp hc with y | y
          · exact h2 t (by omega) hte y
          · omega
    · rw [if_neg c1]
      refine less_in bs (pre ++ [q]) c found new hn' h0 hp (fun t => ?_) (fun t ht hte hc => ?_) (h3.imp id fun z r hr => z r (List.mem_cons_of_mem _ hr))
      · rw [h1 t, hin t]
        constructor
        · rintro ⟨⟨x1, x2, x3⟩, x4⟩
          refine ⟨⟨x1, x2, x3⟩, fun y => y.elim x4 fun y => ?_⟩
          rcases h3 with z | z
          · omega
          · have := z q List.mem_cons_self; omega
        · rintro ⟨x1, x4⟩
          exact ⟨x1, fun y => x4 (.inl y)⟩
      · rcases (hin t).mp hc with y | y
        · exact h2 t ht hte y
        · omega
theorem lessT_ok {b : List (Int × Int)} (hb : Nrm b) (found : List (Int × Int)) {p : Int × Int} : ∃ new, lessT b found p = found ++ new ∧ (∀ r ∈ new, r.1 < r.2) ∧ ∀ t, InS new t ↔ (p.1 ≤ t ∧ t < p.2) ∧ ¬ InS b t := by
  obtain ⟨c, new, e, h0, h1, h2, h3⟩ := less_in (b0 := p.1) (e := p.2) b [] p.1 found [] (by simpa using hb) (Int.le_refl _) (fun r h => nomatch h) (fun t => ⟨fun h => (inS_nil t h).elim, fun h => by omega⟩) (fun t _ _ => inS_nil t) (.inl rfl)
  rw [List.append_nil] at e
  rw [List.nil_append] at h2 h3
  unfold lessT endL
  rw [e]
  dsimp only
  by_cases c1 : c < p.2
  · rw [if_pos c1, List.append_assoc]
    refine ⟨_, rfl, fun r hr => ?_, fun t => ?_⟩
    · rcases List.mem_append.mp hr with hr | hr
      · exact h1 r hr
      · rw [List.mem_singleton.mp hr]; exact c1
    · rw [inS_app, inS_one, h2 t]
      dsimp only
      constructor
      · rintro (⟨⟨x1, x2, x3⟩, x4⟩ | ⟨x1, x2⟩)
        · exact ⟨⟨x1, x2⟩, x4⟩
        · exact ⟨⟨by omega, x2⟩, h3 t x1 x2⟩
      · rintro ⟨⟨x1, x2⟩, x4⟩
        by_cases c3 : t < c
        · exact .inl ⟨⟨x1, x2, c3⟩, x4⟩
        · exact .inr ⟨by omega, x2⟩
  · rw [if_neg c1]
    refine ⟨new, rfl, h1, fun t => ?_⟩
    rw [h2 t]
    exact ⟨fun ⟨⟨x1, x2, x3⟩, x4⟩ => ⟨⟨x1, x2⟩, x4⟩, fun ⟨⟨x1, x2⟩, x4⟩ => ⟨⟨x1, x2, by omega⟩, x4⟩⟩
theorem less_from {b : List (Int × Int)} (hb : Nrm b) : ∀ (a found : List (Int × Int)), (∀ r ∈ found, r.1 < r.2) → (∀ r ∈ a.foldl (lessT b) found, r.1 < r.2) ∧ ∀ t, InS (a.foldl (lessT b) found) t ↔ InS found t ∨ (InS a t ∧ ¬ InS b t)
  | [], found, h => ⟨h, fun t => ⟨.inl, fun x => x.elim id fun y => (inS_nil t y.1).elim⟩⟩
  | p :: a, found, h => by
    obtain ⟨new, e, n1, n2⟩ := lessT_ok hb found (p := p)
    obtain ⟨r1, r2⟩ := less_from hb a (lessT b found p) (fun r hr => by
      rw [e] at hr
      exact (List.mem_append.mp hr).elim (h r) (n1 r))
    refine ⟨r1, fun t => ?_⟩
    rw [List.foldl_cons, r2 t, e, inS_app, n2 t, inS_cons]
    constructor
    · rintro ((x | ⟨x, y⟩) | ⟨x, y⟩)
      · exact .inl x
      · exact .inr ⟨.inl x, y⟩
      · exact .inr ⟨.inr x, y⟩
    · rintro (x | ⟨x | x, y⟩)
      · exact .inl (.inl x)
      · exact .inl (.inr ⟨x, y⟩)
      · exact .inr ⟨x, y⟩
theorem less_ok {a b : List (Int × Int)} (hb : Nrm b) : (∀ r ∈ lessL a b, r.1 < r.2) ∧ ∀ t, InS (lessL a b) t ↔ InS a t ∧ ¬ InS b t := by
  obtain ⟨h1, h2⟩ := less_from hb a [] fun r h => nomatch h
  exact ⟨h1, fun t => (h2 t).trans ⟨fun x => x.elim (fun y => (inS_nil t y).elim) id, .inr⟩⟩
end Ev
namespace Ev
open PySem PySem.W
/-! ### rows of ints that stand in order -/
theorem tI_tI0 (l : List Int) : tI l = tI0 l := rfl
theorem lexI_irr : ∀ a : List Int, lexI a a = false
  | [] => rfl
  | x :: a => by simp [lexI, lexI_irr a]
theorem lexI_asym : ∀ {a b : List Int}, lexI a b = true → lexI b a = false
  | [], [], h => by cases h
  | [], _ :: _, _ => rfl
  | _ :: _, [], h => by cases h
  | x :: a, y :: b, h => by
    simp [lexI] at h ⊢
    rcases h with h | ⟨h1, h2⟩
    · exact ⟨by omega, fun h3 => by omega⟩
    · exact ⟨h1, fun _ => lexI_asym h2⟩
theorem lexI_tot : ∀ {a b : List Int}, lexI a b = false → lexI b a = false → a = b
  | [], [], _, _ => rfl
  | [], _ :: _, h, _ => by cases h
  | _ :: _, [], _, h => by cases h
  | x :: a, y :: b, h1, h2 => by
    simp [lexI] at h1 h2
    have e : x = y := by omega
    subst e
    rw [lexI_tot (h1.2 (Int.le_refl _)) (h2.2 (Int.le_refl _))]
theorem lexI_app {x y : List Int} : ∀ {a b : List Int}, a.length = b.length → a ≠ b → lexI (a ++ x) (b ++ y) = lexI a b
  | [], [], _, h => (h rfl).elim
  | [], _ :: _, h, _ => by simp at h
  | _ :: _, [], h, _ => by simp at h
  | u :: a, v :: b, hl, hn => by
    rw [List.cons_append, List.cons_append, lexI, lexI]
    by_cases e : u = v
    · subst e
      rw [lexI_app (by simpa using hl) fun e => hn (by rw [e])]
    · by_cases c : u < v
      · simp [c]
      · have c2 : v < u := by omega
        simp [c, c2]
theorem sorted_is {l m : List (List Int)} (p : l.Perm m) (s : m.Pairwise fun a b => lexI b a = false) : sortD (l.map tI0) = m.map tI0 := by
  rw [sortD_rows p]
  refine List.mergeSort_of_pairwise (List.pairwise_map.mpr (s.imp fun {a b} h => ?_))
  have := le_ints a b
  rw [tI_tI0, tI_tI0, h] at this
  exact this
/-- the rows in order -/
def srtR (l : List (List Int)) : List (List Int) := l.mergeSort fun a b => !lexI b a
theorem srtR_perm (l : List (List Int)) : (srtR l).Perm l := List.mergeSort_perm _ _
theorem lexI_le_trans {a b c : List Int} (h1 : (!lexI b a) = true) (h2 : (!lexI c b) = true) : (!lexI c a) = true := by
  have T := sortLe_total (PyProof.Rows.listOrd PyProof.Rows.itemOrd) false (fun d : D => keyToks d.py)
  have := T.trans (tI a) (tI b) (tI c)
  have e : ∀ a b : List Int, dataLe false D.py (tI a) (tI b) = !lexI b a := le_ints
  rw [← e a c]
  exact this (by show dataLe false D.py (tI a) (tI b) = true; rw [e]; exact h1) (by show dataLe false D.py (tI b) (tI c) = true; rw [e]; exact h2)
theorem srtR_pw (l : List (List Int)) : (srtR l).Pairwise fun a b => lexI b a = false := by
  have := List.pairwise_mergeSort (le := fun a b => !lexI b a) (fun a b c h1 h2 => lexI_le_trans h1 h2) (fun a b => by
    cases h : lexI b a with
    | false => rfl
    | true => rw [lexI_asym h]; rfl) l
  exact this.imp fun h => by simpa using h
theorem sortD_srtR (l : List (List Int)) : sortD (l.map tI0) = (srtR l).map tI0 := sorted_is (srtR_perm l).symm (srtR_pw l)
theorem asc_uniq {a b : List Int} (ha : a.Pairwise (· < ·)) (hb : b.Pairwise (· < ·)) (h : ∀ x, x ∈ a ↔ x ∈ b) : a = b :=
  List.Perm.eq_of_pairwise (le := fun a b : Int => a < b) (fun a b _ _ h1 h2 => by omega) ha hb ((List.perm_ext_iff_of_nodup (ha.imp fun h e => by omega) (hb.imp fun h e => by omega)).mpr h)
/-! ### windows -/
def evenB (size step first t : Int) : List Int := (rngI (t - size + 1) (t + 1)).filter fun b => decide ((b - first) % step = 0)
structure InvE (size step first t b : Int) (acc : List Int) : Prop where
  m : (b - first) % step = 0
  bt : b ≤ t
  p : acc.Pairwise (· > ·)
  h : ∀ x, x ∈ acc ↔ b < x ∧ x ≤ t ∧ t - size < x ∧ (x - first) % step = 0
theorem invE_start {size step first t : Int} (hs : 1 ≤ step) : InvE size step first t (first + (t - first) / step * step) [] := by
  have h1 := Int.emod_add_mul_ediv (t - first) step
  have h2 := Int.emod_nonneg (t - first) (show step ≠ 0 by omega)
  have h3 := Int.emod_lt_of_pos (t - first) (show 0 < step by omega)
  have e : (t - first) / step * step = step * ((t - first) / step) := Int.mul_comm _ _
  refine ⟨?_, by omega, List.Pairwise.nil, fun x => ⟨fun h => (nomatch h), fun ⟨h4, h5, _, h6⟩ => ?_⟩⟩
  · rw [show first + (t - first) / step * step - first = (t - first) / step * step by omega]
    exact Int.mul_emod_left _ _
  · -- x lies above b and is no more than t: no rest
    have h7 := Int.emod_add_mul_ediv (x - first) step
    rw [h6] at h7
    have h8 : (t - first) / step < (x - first) / step := by
      rcases Int.lt_or_le ((t - first) / step) ((x - first) / step) with c | c
      · exact c
      · have := Int.mul_le_mul_of_nonneg_left c (show 0 ≤ step by omega)
        omega
    have := Int.mul_le_mul_of_nonneg_left (show (t - first) / step + 1 ≤ (x - first) / step by omega) (show 0 ≤ step by omega)
    rw [Int.mul_add, Int.mul_one] at this
    omega
theorem invE_step {size step first t b : Int} {acc : List Int} (hs : 1 ≤ step) (I : InvE size step first t b acc) (hb : b > t - size) : InvE size step first t (b - step) (acc ++ [b]) := by
  refine ⟨?_, by have := I.bt; omega, ?_, fun x => ?_⟩
  · have := I.m
    rw [show b - step - first = (b - first) - step by omega, Int.sub_emod, this, Int.emod_self]
    simp
  · refine List.pairwise_append.mpr ⟨I.p, List.pairwise_singleton _ _, fun x hx y hy => ?_⟩
    rw [List.mem_singleton.mp hy]
    exact ((I.h x).mp hx).1
  · rw [List.mem_append, List.mem_singleton, I.h x]
    constructor
    · rintro (⟨h1, h2⟩ | rfl)
      · exact ⟨by omega, h2⟩
      · exact ⟨by omega, I.bt, by omega, I.m⟩
    · rintro ⟨h1, h2, h3, h4⟩
      by_cases c : b < x
      · exact .inl ⟨c, h2, h3, h4⟩
      · refine .inr ?_
        rcases Int.lt_or_eq_of_le (Int.not_lt.mp c) with c | c
        · exfalso
          have e := Int.sub_emod (b - first) (x - first) step
          rw [I.m, h4] at e
          rw [show b - first - (x - first) = b - x by omega, Int.emod_eq_of_lt (by omega) (by omega)] at e
          simp at e
          omega
        · exact c
theorem rng_pw' (a b : Int) : (rngI a b).Pairwise (· < ·) := by
  unfold rngI
  refine List.pairwise_map.mpr (List.pairwise_lt_range.imp fun h => ?_)
  omega
theorem invE_end {size step first t b : Int} {acc : List Int} (I : InvE size step first t b acc) (hb : ¬ b > t - size) : acc.reverse = evenB size step first t := by
  refine asc_uniq (List.pairwise_reverse.mpr (I.p.imp fun h => h)) ((rng_pw' _ _).filter _) fun x => ?_
  rw [List.mem_reverse, I.h x, evenB, List.mem_filter, mem_rng, decide_eq_true_eq]
  constructor
  · rintro ⟨h1, h2, h3, h4⟩
    exact ⟨⟨by omega, by omega⟩, h4⟩
  · rintro ⟨⟨h1, h2⟩, h4⟩
    exact ⟨by omega, by omega, by omega, h4⟩
theorem mem_evenB {size step first t b : Int} : b ∈ evenB size step first t ↔ t - size < b ∧ b ≤ t ∧ (b - first) % step = 0 := by
  rw [evenB, List.mem_filter, mem_rng, decide_eq_true_eq]
  constructor
  · rintro ⟨⟨h1, h2⟩, h4⟩; exact ⟨by omega, by omega, h4⟩
  · rintro ⟨h1, h2, h4⟩; exact ⟨⟨by omega, by omega⟩, h4⟩
theorem evenB_nodup (size step first t : Int) : (evenB size step first t).Nodup := (rng_nodup _ _).filter _
/-! .. windows of rests -/
def restS (gap : Int) (found : List (Int × Int)) (t : Int) : List (Int × Int) := match found.getLast? with
  | some la => if t < la.2 then found.dropLast ++ [(la.1, t + gap)] else found ++ [(t, t + gap)]
  | none => [(t, t + gap)]
def restW (gap : Int) (times : List Int) : List (Int × Int) := (sortI times).foldl (restS gap) []
structure RInv (done : List Int) (found : List (Int × Int)) : Prop where
  b : ∀ p ∈ found, p.1 ∈ done ∧ p.1 < p.2
  p : found.Pairwise fun p q => p.1 < q.1
theorem rinv_step {gap t : Int} {done : List Int} {found : List (Int × Int)} (hg : 1 ≤ gap) (I : RInv done found) (ht : ∀ s ∈ done, s ≤ t) : RInv (done ++ [t]) (restS gap found t) := by
  have hm : ∀ p ∈ found, p.1 ∈ done ++ [t] ∧ p.1 < p.2 := fun p hp => ⟨List.mem_append_left _ (I.b p hp).1, (I.b p hp).2⟩
  rcases List.eq_nil_or_concat found with rfl | ⟨init, la, rfl⟩
  · refine ⟨fun p hp => ?_, List.pairwise_singleton _ _⟩
    have hp : p ∈ [(t, t + gap)] := hp
    rw [List.mem_singleton.mp hp]
    exact ⟨by simp, by dsimp only; omega⟩
  · rw [List.concat_eq_append] at *
    have e : restS gap (init ++ [la]) t = if t < la.2 then init ++ [(la.1, t + gap)] else init ++ [la] ++ [(t, t + gap)] := by
      unfold restS
      rw [List.getLast?_concat]
      dsimp only
      rw [List.dropLast_concat]
    have hla := I.b la (by simp)
    have hlt := ht la.1 hla.1
    obtain ⟨p1, p2, p3⟩ := List.pairwise_append.mp I.p
    rw [e]
    by_cases c : t < la.2
    · rw [if_pos c]
      refine ⟨fun p hp => ?_, List.pairwise_append.mpr ⟨p1, List.pairwise_singleton _ _, fun x hx y hy => ?_⟩⟩
      · rcases List.mem_append.mp hp with hp | hp
        · exact hm p (List.mem_append_left _ hp)
        · rw [List.mem_singleton.mp hp]
          exact ⟨List.mem_append_left _ hla.1, by dsimp only; omega⟩
      · rw [List.mem_singleton.mp hy]
        exact p3 x hx la (by simp)
    · rw [if_neg c]
      refine ⟨fun p hp => ?_, List.pairwise_append.mpr ⟨I.p, List.pairwise_singleton _ _, fun x hx y hy => ?_⟩⟩
      · rcases List.mem_append.mp hp with hp | hp
        · exact hm p hp
        · rw [List.mem_singleton.mp hp]
          exact ⟨by simp, by dsimp only; omega⟩
      · rw [List.mem_singleton.mp hy]
        dsimp only
        rcases List.mem_append.mp hx with hx | hx
        · have := p3 x hx la (by simp); omega
        · rw [List.mem_singleton.mp hx]; omega
theorem rinv_all {gap : Int} (hg : 1 ≤ gap) : ∀ (ts done : List Int) (found : List (Int × Int)), RInv done found → (done ++ ts).Pairwise (· ≤ ·) → RInv (done ++ ts) (ts.foldl (restS gap) found)
  | [], done, found, I, _ => by rw [List.append_nil]; exact I
  | t :: ts, done, found, I, h => by
    have h1 : ∀ s ∈ done, s ≤ t := fun s hs => (List.pairwise_append.mp h).2.2 s hs t List.mem_cons_self
    have := rinv_all hg ts (done ++ [t]) _ (rinv_step hg I h1) (by simpa using h)
    rw [List.append_assoc] at this
    exact this
theorem restW_ok {gap : Int} (hg : 1 ≤ gap) (times : List Int) : (∀ p ∈ restW gap times, p.1 ∈ times ∧ p.1 < p.2) ∧ (restW gap times).Pairwise fun p q => p.1 < q.1 := by
  have I := rinv_all hg (sortI times) [] [] ⟨fun p h => (nomatch h), List.Pairwise.nil⟩ (by rw [List.nil_append]; exact sortI_pw times)
  rw [List.nil_append] at I
  exact ⟨fun p hp => ⟨(List.mergeSort_perm _ _).mem_iff.mp (I.b p hp).1, (I.b p hp).2⟩, I.p⟩
theorem restS_len (gap : Int) (found : List (Int × Int)) (t : Int) : (restS gap found t).length ≤ found.length + 1 := by
  unfold restS
  split
  · split <;> simp
  · simp
theorem restF_len (gap : Int) : ∀ (ts : List Int) (found : List (Int × Int)), (ts.foldl (restS gap) found).length ≤ found.length + ts.length
  | [], found => Nat.le_refl _
  | t :: ts, found => by
    have h1 := restF_len gap ts (restS gap found t)
    have h2 := restS_len gap found t
    rw [List.foldl_cons, List.length_cons]
    omega
theorem restW_len (gap : Int) (times : List Int) : (restW gap times).length ≤ times.length := by
  have := restF_len gap (sortI times) []
  unfold restW
  unfold sortI at *
  rw [List.length_mergeSort] at this
  simpa using this
/-! .. folds -/
inductive W22 where
  | even | rests | count | sum | least | most
  deriving DecidableEq
def W22.str : W22 → Str
  | .even => "even"
  | .rests => "rests"
  | .count => "count"
  | .sum => "sum"
  | .least => "least"
  | .most => "most"
theorem W22.lay (w : W22) : PyData.canLay0 (.str w.str) = true := by cases w <;> (rw [PyData.canLay0]; decide +kernel)
theorem W22.stE (w u : W22) : decide (w.str = u.str) = decide (w = u) := by cases w <;> cases u <;> rfl
def W22.W (w : W22) : D := .str w.str
theorem W22.c_even : E.cst (.str "even") = E.cst (W22.W .even) := rfl
theorem W22.c_rests : E.cst (.str "rests") = E.cst (W22.W .rests) := rfl
theorem W22.c_count : E.cst (.str "count") = E.cst (W22.W .count) := rfl
theorem W22.c_sum : E.cst (.str "sum") = E.cst (W22.W .sum) := rfl
theorem W22.c_least : E.cst (.str "least") = E.cst (W22.W .least) := rfl
theorem W22.c_most : E.cst (.str "most") = E.cst (W22.W .most) := rfl
theorem W22.inj {w u : W22} : (w.W = u.W) = (w = u) := by
  refine propext ⟨fun h => ?_, fun h => by rw [h]⟩
  have h := D.str.inj h
  have := W22.stE w u
  rw [decide_eq_true h] at this
  exact of_decide_eq_true this.symm
theorem W22.eq [Tab] {M : Mem} (w u : W22) : op2 .eq (.v w.W) (.v u.W) M = some (.v (.bl (decide (w = u))), M) := by
  unfold W22.W
  rw [op2_eq_str w.lay u.lay, W22.stE]
theorem W22.sh (k : Nat) (w : W22) : Sh k w.W := ⟨rfl, w.lay, by simp [W22.W, D.py, PyData.depth]⟩
theorem W22.flat (w : W22) : Flat w.W := .inr (.inr (.inr ⟨_, rfl, w.lay⟩))
abbrev Row22 := Int × (Int × Int)
def foldV (f : W22) (ns : List Int) : Int := match f with
  | .count => (ns.length : Nat)
  | .sum => ns.sum
  | .least => (minI ns).getD 0
  | _ => (maxI ns).getD 0
def inW (b e : Int) (key : Option Int) (r : Row22) : Bool := decide (b ≤ r.1) && (decide (r.1 < e) && key.elim true fun k => decide (r.2.1 = k))
def numsW (rows : List Row22) (b e : Int) (key : Option Int) : List Int := (rows.filter (inW b e key)).map fun r => r.2.2
theorem numsW_ne {rows : List Row22} {b e : Int} {key : Option Int} {r : Row22} (h : r ∈ rows) (h2 : inW b e key r = true) : numsW rows b e key ≠ [] := fun e => by
  unfold numsW at e
  rw [List.map_eq_nil_iff, List.filter_eq_nil_iff] at e
  exact e r h h2
/-! .. each span once, in order of coming -/
def addN (found own : List (List Int)) : List (List Int) := found ++ own.filter fun s => decide (s ∉ found)
theorem addN_mem {found own : List (List Int)} {s : List Int} : s ∈ addN found own ↔ s ∈ found ∨ s ∈ own := by
  unfold addN
  rw [List.mem_append, List.mem_filter, decide_eq_true_eq]
  by_cases c : s ∈ found
  · simp [c]
  · simp [c]
theorem addN_nodup {found own : List (List Int)} (h1 : found.Nodup) (h2 : own.Nodup) : (addN found own).Nodup := by
  unfold addN
  refine List.nodup_append.mpr ⟨h1, h2.filter _, fun a ha b hb e => ?_⟩
  subst e
  have := (List.mem_filter.mp hb).2
  rw [decide_eq_true_eq] at this
  exact this ha
theorem addN_fold {α : Type} (own : α → List (List Int)) (ho : ∀ a, (own a).Nodup) : ∀ (l : List α) (found : List (List Int)), found.Nodup → (l.foldl (fun f a => addN f (own a)) found).Nodup ∧ ∀ s, s ∈ l.foldl (fun f a => addN f (own a)) found ↔ s ∈ found ∨ ∃ a ∈ l, s ∈ own a
  | [], found, h => ⟨h, fun s => ⟨.inl, fun h => h.elim id fun ⟨a, h, _⟩ => nomatch h⟩⟩
  | a :: l, found, h => by
    obtain ⟨h1, h2⟩ := addN_fold own ho l (addN found (own a)) (addN_nodup h (ho a))
    refine ⟨h1, fun s => ?_⟩
    rw [List.foldl_cons, h2 s, addN_mem]
    constructor
    · rintro ((h | h) | ⟨b, hb, h⟩)
      · exact .inl h
      · exact .inr ⟨a, List.mem_cons_self, h⟩
      · exact .inr ⟨b, List.mem_cons_of_mem _ hb, h⟩
    · rintro (h | ⟨b, hb, h⟩)
      · exact .inl (.inl h)
      · rcases List.mem_cons.mp hb with rfl | hb
        · exact .inl (.inr h)
        · exact .inr ⟨b, hb, h⟩
end Ev
namespace Ev
open PySem PySem.W
/-! ### more of the machine: while, sets, members, sorts -/
section
variable [Tab] {P : List FD} {i k n q : Nat} {cf : Cf} {v : Env} {M M' : Mem}
theorem w_while {c : Env → Mem → Option (Bool × Mem)} {b : Env → Mem → Option ((Fl × Env) × Mem)} (I : Nat → Env → Mem → Prop) (R : Env → Mem → Prop)
    (hs : ∀ j v M, I j v M → WP (c v M) fun t M1 => (t = false ∧ R v M1) ∨ (t = true ∧ WP (b v M1) fun r M' => r.1 = .nx ∧ ∃ i, i < j ∧ I i r.2 M')) :
    ∀ (fuel j : Nat) (v : Env) (M : Mem), j < fuel → I j v M → WP (whileL c b fuel v M) fun r M' => ∃ v', r = (.nx, v') ∧ R v' M'
  | 0, j, v, M, h, _ => absurd h (Nat.not_lt_zero _)
  | fuel + 1, j, v, M, hj, h => by
    obtain ⟨t, M1, e, h1⟩ := hs j v M h
    rw [whileL, e, bnd_some]
    rcases h1 with ⟨rfl, hR⟩ | ⟨rfl, ⟨⟨fl, v1⟩, M2, e2, hf, i, hi, h2⟩⟩
    · rw [if_neg (by decide)]
      exact WP.intro ⟨_, rfl, hR⟩
    · have hf : fl = _ := hf
      subst hf
      rw [if_pos rfl, e2, bnd_some]
      exact w_while I R hs fuel i v1 M2 (by omega) h2
/-! .. methods -/
@[simp] theorem rM2_ext (as : List A) (l l0 : List D) : rM2 n .extend as M (some (.lst l0)) (some (.lst l)) = bmExtend n l as M := by
  unfold rM2
  simp [bmA, kindM]
@[simp] theorem rM2_rem (as : List A) (l l0 : List D) : rM2 n .remove as M (some (.lst l0)) (some (.lst l)) = bmRemove n l as M := by
  unfold rM2
  simp [bmA, kindM]
@[simp] theorem rM2_idx (as : List A) (l l0 : List D) : rM2 n .index as M (some (.lst l0)) (some (.lst l)) = bmIndex l as M := by
  unfold rM2
  simp [bmA, kindM]
@[simp] theorem rM2_cnt (as : List A) (l l0 : List D) : rM2 n .count as M (some (.lst l0)) (some (.lst l)) = bmCount l as M := by
  unfold rM2
  simp [bmA, kindM]
@[simp] theorem rM2_popAt (as : List A) (l l0 : List D) : rM2 n .popAt as M (some (.lst l0)) (some (.lst l)) = bmPopAt n l as M := by
  unfold rM2
  simp [bmA, kindM]
@[simp] theorem bmExt_t (l x : List D) : bmExtend n l [.v (.tup x)] M = if l.length + x.length ≤ line then some (.v .non, M.set n (.lst (l ++ x))) else none := rfl
@[simp] theorem bmExt_l (l x : List D) : bmExtend n l [.l x] M = if l.length + x.length ≤ line then some (.v .non, M.set n (.lst (l ++ x))) else none := rfl
theorem bmExt_r {m : Nat} {x : List D} (h : M[m]? = some (.lst x)) (l : List D) : bmExtend n l [.v (.ref m)] M = if l.length + x.length ≤ line then some (.v .non, M.set n (.lst (l ++ x))) else none := by
  unfold bmExtend
  dsimp only
  rw [h]
@[simp] theorem bmPopAt_0 (d : D) (l : List D) : bmPopAt n (d :: l) [.v (.int 0)] M = some (.v d, M.set n (.lst l)) := rfl
/-! .. members -/
theorem pyOf_en {α : Type} [En α] (a : α) : pyOf M (.v (en a)) = some (en a).py := by
  have hp := En.pure a
  have hn := en_nr a
  generalize en a = d at hp hn
  unfold pyOf
  cases d <;> first | exact (hn _ rfl).elim | (dsimp only; rw [if_pos hp])
theorem any_en {α : Type} [En α] [DecidableEq α] [EnEq α] (a : α) : ∀ l : List α, ((D.pys (l.map en)).any fun z => PyData.eqv z (en a).py) = decide (a ∈ l)
  | [] => rfl
  | b :: l => by
    rw [List.map_cons, D.pys, List.any_cons, any_en a l, EnEq.eqv b a]
    by_cases c : b = a
    · subst c; simp
    · have c' : ¬ a = b := fun e => c e.symm
      simp [c, c']
theorem in_r {α : Type} [En α] [DecidableEq α] [EnEq α] {l : List α} (h : En.dep α + 1 ≤ 64) (hq : M[q]? = some (.lst (l.map en))) (a : α) [Decidable (a ∈ l)] : inA M (.v (en a)) (.v (.ref q)) = some (decide (a ∈ l)) := by
  have hs := sh_en l
  unfold inA
  simp only [hq, pyOf_en]
  rw [(shs hs).1, (en_sh a).shaped (by omega), shaped_list hs (by omega)]
  simp only [Bool.and_self, if_true]
  rw [any_en]
  congr
theorem isin_r {α : Type} [En α] [DecidableEq α] [EnEq α] {l : List α} (h : En.dep α + 1 ≤ 64) (hq : M[q]? = some (.lst (l.map en))) (a : α) [Decidable (a ∈ l)] : op2 .isin (.v (en a)) (.v (.ref q)) M = some (.v (.bl (decide (a ∈ l))), M) := by
  show (inA M (.v (en a)) (.v (.ref q))).map _ = _
  rw [in_r h hq]
  rfl
theorem notin_r {α : Type} [En α] [DecidableEq α] [EnEq α] {l : List α} (h : En.dep α + 1 ≤ 64) (hq : M[q]? = some (.lst (l.map en))) (a : α) [Decidable (a ∈ l)] : op2 .notin (.v (en a)) (.v (.ref q)) M = some (.v (.bl (!decide (a ∈ l))), M) := by
  show (inA M (.v (en a)) (.v (.ref q))).map _ = _
  rw [in_r h hq]
  rfl
theorem in_t {α : Type} [En α] [DecidableEq α] [EnEq α] {l : List α} (h : En.dep α + 1 ≤ 64) (a : α) [Decidable (a ∈ l)] : inA M (.v (en a)) (.v (.tup (l.map en))) = some (decide (a ∈ l)) := by
  have hs := sh_en l
  unfold inA
  simp only [itemsOf, pyOf_en]
  rw [(shs hs).1, (en_sh a).shaped (by omega), shaped_list hs (by omega)]
  simp only [Bool.and_self, if_true]
  rw [any_en]
  congr
theorem isin_t {α : Type} [En α] [DecidableEq α] [EnEq α] {l : List α} (h : En.dep α + 1 ≤ 64) (a : α) [Decidable (a ∈ l)] : op2 .isin (.v (en a)) (.v (.tup (l.map en))) M = some (.v (.bl (decide (a ∈ l))), M) := by
  show (inA M (.v (en a)) (.v (.tup (l.map en)))).map _ = _
  rw [in_t h]
  rfl
theorem notin_t {α : Type} [En α] [DecidableEq α] [EnEq α] {l : List α} (h : En.dep α + 1 ≤ 64) (a : α) [Decidable (a ∈ l)] : op2 .notin (.v (en a)) (.v (.tup (l.map en))) M = some (.v (.bl (!decide (a ∈ l))), M) := by
  show (inA M (.v (en a)) (.v (.tup (l.map en)))).map _ = _
  rw [in_t h]
  rfl
theorem in_l {α : Type} [En α] [DecidableEq α] [EnEq α] {l : List α} (h : En.dep α + 1 ≤ 64) (a : α) [Decidable (a ∈ l)] : inA M (.v (en a)) (.l (l.map en)) = some (decide (a ∈ l)) := by
  have hs := sh_en l
  unfold inA
  simp only [itemsOf, pyOf_en]
  rw [(shs hs).1, (en_sh a).shaped (by omega), shaped_list hs (by omega)]
  simp only [Bool.and_self, if_true]
  rw [any_en]
  congr
theorem isin_l {α : Type} [En α] [DecidableEq α] [EnEq α] {l : List α} (h : En.dep α + 1 ≤ 64) (a : α) [Decidable (a ∈ l)] : op2 .isin (.v (en a)) (.l (l.map en)) M = some (.v (.bl (decide (a ∈ l))), M) := by
  show (inA M (.v (en a)) (.l (l.map en))).map _ = _
  rw [in_l h]
  rfl
/-! .. sorts and sets -/
theorem sorted_i {x : A} {l : List Int} (h : drawsOf M x = some (l.map D.int)) : biA .sorted [x] M = some (.l ((sortI l).map D.int), M) := by
  show biSorted x M = _
  unfold biSorted
  rw [h]
  dsimp only
  rw [if_pos (sortOk_int l), sortD_int]
theorem sorted_rows {x : A} {l : List (List Int)} {n : Nat} (h : drawsOf M x = some (l.map tI0)) (hl : ∀ r ∈ l, r.length = n) (hn : 0 < n) : biA .sorted [x] M = some (.l ((srtR l).map tI0), M) := by
  show biSorted x M = _
  unfold biSorted
  rw [h]
  dsimp only
  rw [if_pos (sortOk_rows hl hn), sortD_srtR]
theorem set_i {x : A} {l : List Int} (h : itemsOf M x = some (l.map D.int)) (hl : l.length < 64) : biA (.set true) [x] M = some (.l ((srtI (nubI l)).map D.int), M) := by
  show biSrtSet x M = _
  unfold biSrtSet
  rw [h]
  dsimp only
  rw [intsOf_map]
  dsimp only
  have := nub_len l
  rw [if_pos ⟨by omega, by omega⟩]
theorem rowsI_map : ∀ l : List (List Int), rowsI (l.map tI0) = some l
  | [] => rfl
  | r :: l => by
    rw [List.map_cons, rowsI, rowsI_map l]
    show (match intsOf (r.map D.int), some l with
      | some r, some rs => some (r :: rs)
      | _, _ => none) = _
    rw [intsOf_map]
theorem eqLen_all {n : Nat} (hn : 0 < n) : ∀ {l : List (List Int)}, (∀ r ∈ l, r.length = n) → eqLen l = true
  | [], _ => rfl
  | r :: l, h => by
    have h0 := h r List.mem_cons_self
    rw [eqLen, Bool.and_eq_true, decide_eq_true_eq, List.all_eq_true]
    exact ⟨by omega, fun q hq => by rw [decide_eq_true_eq, h q (List.mem_cons_of_mem _ hq), h0]⟩
theorem set_rows {x : A} {l : List (List Int)} {n : Nat} (h : listOf M x = some (l.map tI0)) (hl : l.length < 64) (he : ∀ r ∈ l, r.length = n) (hn : 0 < n) : biA (.set true) [x] M = some (.l ((srtR (nubR l)).map tI0), M) := by
  have hi : itemsOf M x = some (l.map tI0) := by
    unfold listOf at h
    split at h
    · cases h
    · cases h
    · exact h
  show biSrtSet x M = _
  unfold biSrtSet
  rw [hi]
  dsimp only
  cases l with
  | nil => simp [intsOf, nubI, nubR, srtI, srtR]
  | cons r l =>
    have e : intsOf ((r :: l).map tI0) = none := rfl
    rw [e]
    dsimp only
    unfold biSrtRows
    rw [h]
    dsimp only
    rw [rowsI_map]
    dsimp only
    rw [if_pos ⟨hl, eqLen_all hn he⟩, sortD_srtR]
theorem min_i {x : A} {l : List Int} {m : Int} (h : listOf M x = some (l.map D.int)) (hm : minI l = some m) : biA .min [x] M = some (.v (.int m), M) := by
  show biMinL x M = _
  unfold biMinL
  rw [h]
  dsimp only
  rw [intsOf_map]
  dsimp only
  rw [hm]
  rfl
theorem max_i {x : A} {l : List Int} {m : Int} (h : itemsOf M x = some (l.map D.int)) (hm : maxI l = some m) : biA .max [x] M = some (.v (.int m), M) := by
  show biMaxL x M = _
  unfold biMaxL
  rw [h]
  dsimp only
  rw [intsOf_map]
  dsimp only
  rw [hm]
  rfl
theorem fin_of {d d' : D} (h : d = d') (hp : d'.pure = true) (X : Mem) : some (fin M d (M ++ X)) = some (d', M) := by
  rw [h]
  exact congrArg some (fin_P hp X)
/-! .. parts -/
theorem cut_last (l : List D) : cutD l none (some (-1)) = l.dropLast := by
  unfold cutD
  simp [HT.sIx]
  rw [List.dropLast_eq_take]
  by_cases c : l = []
  · subst c; simp
  · have := List.length_pos_iff.mpr c
    congr 1
    omega
@[simp] theorem slA_rW (M : Mem) (n : Nat) (lo hi : Option Int) : slA M (.v (.ref n)) lo hi = (rLst (M[n]?)).map fun ds => .l (cutD ds lo hi) := by
  show (itemsOf M (.v (.ref n))).map _ = _
  rw [itemsOf_r]
@[simp] theorem slA_lW (M : Mem) (l : List D) (lo hi : Option Int) : slA M (.l l) lo hi = some (.l (cutD l lo hi)) := rfl
@[simp] theorem slA_tW (M : Mem) (l : List D) (lo hi : Option Int) : slA M (.v (.tup l)) lo hi = some (.v (.tup (cutD l lo hi))) := rfl
@[simp] theorem ev_revW (a : E) : ev cf (.rev a) v M = bnd (ev cf a v M) revA := by rw [ev]
theorem rangeI (a b : Int) : rangeD a b = (rngI a b).map D.int := by
  unfold rangeD rngI
  rw [List.map_map]
  rfl
@[simp] theorem revA_r (n : Nat) : revA (.v (.ref n)) M = (rLst (M[n]?)).map fun ds => (.l ds.reverse, M) := by
  show (itemsOf M (.v (.ref n))).map _ = _
  rw [itemsOf_r]
@[simp] theorem revA_l (l : List D) : revA (.l l) M = some (.l l.reverse, M) := rfl
@[simp] theorem revA_t (l : List D) : revA (.v (.tup l)) M = some (.v (.tup l.reverse), M) := rfl
end
end Ev
namespace Ev
open PySem PySem.W
/-! ### dicts whose keys are rows of ints, whose values are ints -/
abbrev Rc := List Int × Int
theorem map_int_inj : ∀ {a b : List Int}, a.map D.int = b.map D.int → a = b
  | [], [], _ => rfl
  | [], _ :: _, h => nomatch h
  | _ :: _, [], h => nomatch h
  | x :: a, y :: b, h => by
    injection h with h1 h2
    rw [D.int.inj h1, map_int_inj h2]
theorem tI0_inj {a b : List Int} : (tI0 a = tI0 b) = (a = b) := propext ⟨fun h => map_int_inj (D.tup.inj h), fun h => by rw [h]⟩
theorem key_tI0 (a : List Int) : isKey true (tI0 a) = true := by
  show (a.map D.int).all isKeyK = true
  rw [List.all_eq_true]
  intro d hd
  obtain ⟨i, _, rfl⟩ := List.mem_map.mp hd
  rfl
def rcE (p : Rc) : D × D := (tI0 p.1, .int p.2)
def rcD (p : Rc) : D := .tup [tI0 p.1, .int p.2]
theorem rcD_en : (rcD : Rc → D) = en := rfl
def getR (T : List Rc) (r : List Int) : Option Int := (T.find? fun p => decide (p.1 = r)).map (·.2)
def putR (T : List Rc) (r : List Int) (z : Int) : List Rc := if (T.any fun p => decide (p.1 = r)) = true then T.map (fun p => if p.1 = r then (p.1, z) else p) else T ++ [(r, z)]
theorem dget_R (T : List Rc) (r : List Int) : dget (T.map rcE) (tI0 r) = (getR T r).map D.int := by
  unfold dget getR
  rw [List.find?_map]
  have e : ((fun kv : D × D => decide (kv.1 = tI0 r)) ∘ rcE) = fun p : Rc => decide (p.1 = r) := by
    funext p
    simp [rcE, tI0_inj]
  rw [e]
  cases T.find? (fun p => decide (p.1 = r)) <;> rfl
theorem dput_R (T : List Rc) (r : List Int) (z : Int) : dput (T.map rcE) (tI0 r) (.int z) = (putR T r z).map rcE := by
  unfold dput putR
  have e : ((T.map rcE).any fun kv => decide (kv.1 = tI0 r)) = T.any fun p => decide (p.1 = r) := by
    rw [List.any_map]
    congr 1
    funext p
    simp [rcE, tI0_inj]
  rw [e]
  split
  · rw [List.map_map, List.map_map]
    refine List.map_congr_left fun p hp => ?_
    show (if tI0 p.1 = tI0 r then (tI0 p.1, D.int z) else rcE p) = rcE (if p.1 = r then (p.1, z) else p)
    by_cases c : p.1 = r
    · rw [if_pos c, if_pos (by rw [c])]; rfl
    · rw [if_neg c, if_neg (by rw [tI0_inj]; exact c)]
  · rw [List.map_append]; rfl
theorem putR_mem {T : List Rc} {r : List Int} {z : Int} {p : Rc} (h : p ∈ putR T r z) : (∃ q ∈ T, q.1 = p.1) ∨ p.1 = r := by
  unfold putR at h
  split at h
  · obtain ⟨q, hq, rfl⟩ := List.mem_map.mp h
    refine .inl ⟨q, hq, ?_⟩
    split <;> rfl
  · rcases List.mem_append.mp h with h | h
    · exact .inl ⟨p, h, rfl⟩
    · rw [List.mem_singleton.mp h]; exact .inr rfl
theorem putR_len (T : List Rc) (r : List Int) (z : Int) : (putR T r z).length ≤ T.length + 1 := by
  unfold putR
  split
  · rw [List.length_map]; omega
  · simp
theorem getR_put (T : List Rc) (r : List Int) (z : Int) : getR (putR T r z) r = some z := by
  unfold putR
  by_cases c : (T.any fun p => decide (p.1 = r)) = true
  · rw [if_pos c]
    unfold getR
    induction T with
    | nil => cases c
    | cons p T ih =>
      rw [List.map_cons, List.find?_cons]
      by_cases c1 : p.1 = r
      · simp [c1]
      · rw [List.any_cons, decide_eq_false c1, Bool.false_or] at c
        simp [c1]
        simpa using ih c
  · rw [if_neg c]
    unfold getR
    rw [List.find?_append]
    have : T.find? (fun p => decide (p.1 = r)) = none := by
      rw [List.find?_eq_none]
      intro p hp hpr
      exact c (List.any_eq_true.mpr ⟨p, hp, hpr⟩)
    rw [this]
    simp
theorem getR_other {T : List Rc} {r s : List Int} (h : s ≠ r) (z : Int) : getR (putR T r z) s = getR T s := by
  unfold putR
  by_cases c : (T.any fun p => decide (p.1 = r)) = true
  · rw [if_pos c]
    clear c
    unfold getR
    induction T with
    | nil => rfl
    | cons p T ih =>
      rw [List.map_cons, List.find?_cons, List.find?_cons]
      by_cases c1 : p.1 = r
      · have c2 : ¬ p.1 = s := fun e => h (e.symm.trans c1)
        rw [if_pos c1]
        simp [c2]
        simpa using ih
      · rw [if_neg c1]
        by_cases c2 : p.1 = s
        · simp [c2]
        · simp [c2]
          simpa using ih
  · rw [if_neg c]
    unfold getR
    rw [List.find?_append]
    have h' : ¬ r = s := fun e => h e.symm
    simp [h']
theorem getR_mem {T : List Rc} {p : Rc} (h : p ∈ T) : ∃ z, getR T p.1 = some z := by
  unfold getR
  cases e : T.find? (fun q => decide (q.1 = p.1)) with
  | none =>
    have := List.find?_eq_none.mp e p h
    simp at this
  | some q => exact ⟨q.2, rfl⟩
/-! .. dict(pairs), which keys are there -/
theorem dget_put_some (kvs : List (D × D)) (a d k : D) : (dget (dput kvs a d) k).isSome = ((dget kvs k).isSome || decide (a = k)) := by
  unfold dget dput
  rw [Option.isSome_map, Option.isSome_map]
  split
  · rename_i c
    rw [List.find?_map, Option.isSome_map]
    have e : ((fun kv : D × D => decide (kv.1 = k)) ∘ fun kv : D × D => if kv.1 = a then (kv.1, d) else kv) = fun kv : D × D => decide (kv.1 = k) := by
      funext kv
      show decide ((if kv.1 = a then (kv.1, d) else kv).1 = k) = _
      split <;> rfl
    rw [e]
    by_cases ck : a = k
    · subst ck
      rw [decide_eq_true rfl, Bool.or_true, List.find?_isSome]
      obtain ⟨x, hx, h⟩ := List.any_eq_true.mp c
      exact ⟨x, hx, h⟩
    · rw [decide_eq_false ck, Bool.or_false]
  · rw [List.find?_append]
    by_cases ck : a = k
    · simp [ck]
    · cases (kvs.find? fun kv => decide (kv.1 = k)) <;> simp [ck]
theorem dget_merge_some : ∀ (more kvs : List (D × D)) (k : D), (dget (dmerge kvs more) k).isSome = ((dget kvs k).isSome || more.any fun p => decide (p.1 = k))
  | [], kvs, k => by rw [List.any_nil, Bool.or_false]; rfl
  | p :: more, kvs, k => by
    show (dget (dmerge (dput kvs p.1 p.2) more) k).isSome = _
    rw [dget_merge_some more, dget_put_some, List.any_cons, Bool.or_assoc]
theorem pairsT_map {α : Type} (f : α → List Int) (g : α → D) : ∀ l : List α, pairsOf true (l.map fun x => D.tup [tI0 (f x), g x]) = some (l.map fun x => (tI0 (f x), g x))
  | [] => rfl
  | x :: l => by
    rw [List.map_cons, pairsOf, if_pos (key_tI0 _), pairsT_map f g l]
    rfl
section
variable [Tab] {M : Mem}
theorem bi_dictT_l {α : Type} (f : α → List Int) (g : α → D) (l : List α) : biA (.dict true) [.l (l.map fun x => D.tup [tI0 (f x), g x])] M = some (.v (.ref M.length), M ++ [.dic true (dmerge [] (l.map fun x => (tI0 (f x), g x)))]) := by
  show biDictX (.l _) M = _
  unfold biDictX
  dsimp only
  rw [pairsT_map]
theorem bi_dictT_x {α : Type} (f : α → List Int) (g : α → D) (l : List α) : biA (.dict true) [.v (.xt (l.map fun x => D.tup [tI0 (f x), g x]))] M = some (.v (.ref M.length), M ++ [.dic true (dmerge [] (l.map fun x => (tI0 (f x), g x)))]) := by
  show biDictX (.v (.xt _)) M = _
  unfold biDictX
  dsimp only
  rw [pairsT_map]
theorem inA_dic {n : Nat} {t : Bool} {kvs : List (D × D)} (h : M[n]? = some (.dic t kvs)) {k : D} (hk : isKey t k = true) : inA M (.v k) (.v (.ref n)) = some (dget kvs k).isSome := by
  unfold inA
  simp only [h, hk, if_true]
theorem notin_dic {n : Nat} {t : Bool} {kvs : List (D × D)} (h : M[n]? = some (.dic t kvs)) {k : D} (hk : isKey t k = true) : op2 .notin (.v k) (.v (.ref n)) M = some (.v (.bl (!(dget kvs k).isSome)), M) := by
  show (inA M (.v k) (.v (.ref n))).map _ = _
  rw [inA_dic h hk]
  rfl
theorem isin_dic {n : Nat} {t : Bool} {kvs : List (D × D)} (h : M[n]? = some (.dic t kvs)) {k : D} (hk : isKey t k = true) : op2 .isin (.v k) (.v (.ref n)) M = some (.v (.bl (dget kvs k).isSome), M) := by
  show (inA M (.v k) (.v (.ref n))).map _ = _
  rw [inA_dic h hk]
  rfl
end
end Ev
namespace Ev.B33
open PySem
/-! add_to -/
def b0_f1 : Ss := (.cons (.asg (.sub (.var 0) (.var 3)) (.op .add (.meth (.var 0) none (some .get) (.cons (.var 3) (.cons (.cst (.int 0)) .nil))) (.op .mul (.var 2) (.var 4)))) .nil)
def b0 : Ss := (.cons (.for (.tp [(.nm 3), (.nm 4)]) (.ex (.var 1)) b0_f1) .nil)
/-! table_of_counts -/
def b1_l1 : E := (.tup (.cons (.var 1) (.cons (.ix (.var 0) (.var 1)) .nil)))
def b1 : Ss := (.cons (.ret (.bi .xtup (.cons (.lc b1_l1 (.nm 1) (.ex (.bi .sorted (.cons (.var 0) .nil))) (.op .ne (.ix (.var 0) (.var 1)) (.cst (.int 0))) [1]) .nil))) .nil)
/-! table_of -/
def b2 : Ss := (.cons (.asg (.tg (.nm 1)) (.dic true .nil)) (.cons (.expr (.call 0 (.cons (.var 1) (.cons (.var 0) (.cons (.cst (.int 1)) .nil))))) (.cons (.ret (.call 1 (.cons (.var 1) .nil))) .nil)))
/-! part_of -/
def b3_l1 : E := (.op .mul (.op .add (.var 3) (.cst (.int 1))) (.ix (.var 0) (.ix (.var 1) (.var 3))))
def b3 : Ss := (.cons (.ret (.op .mod (.bi .sum (.cons (.lc b3_l1 (.nm 3) (.rng (.cst (.int 0)) (.bi .len (.cons (.var 1) .nil))) (.cst (.bl true)) [3]) .nil)) (.var 2))) .nil)
/-! parts -/
def b4_f1 : Ss := (.cons (.expr (.meth (.ix (.var 3) (.call 3 (.cons (.ix (.var 5) (.cst (.int 0))) (.cons (.var 1) (.cons (.var 2) .nil))))) none (some .append) (.cons (.var 5) .nil))) .nil)
def b4 : Ss := (.cons (.asg (.tg (.nm 3)) (.lc (.lst .nil) (.nm 4) (.rng (.cst (.int 0)) (.var 2)) (.cst (.bl true)) [4])) (.cons (.for (.nm 5) (.ex (.var 0)) b4_f1) (.cons (.ret (.bi .tuple (.cons (.lc (.call 2 (.cons (.var 6) .nil)) (.nm 6) (.ex (.var 3)) (.cst (.bl true)) [6]) .nil))) .nil)))
/-! _law_number -/
def b10 : Ss := (.cons (.ret (.and (.isi (.var 0) .int) (.and (.not (.isi (.var 0) .bool)) (.op .ge (.var 0) (.var 1))))) .nil)
/-! _law_table -/
def b11_l1 : E := (.tup (.cons (.var 1) (.cons (.ix (.var 0) (.var 1)) .nil)))
def b11 : Ss := (.cons (.ret (.bi .xtup (.cons (.lc b11_l1 (.nm 1) (.ex (.bi .sorted (.cons (.var 0) .nil))) (.op .ne (.ix (.var 0) (.var 1)) (.cst (.int 0))) [1]) .nil))) .nil)
/-! _law_plus -/
def b12_f1 : Ss := (.cons (.asg (.sub (.var 3) (.var 4)) (.op .add (.meth (.var 3) none (some .get) (.cons (.var 4) (.cons (.cst (.int 0)) .nil))) (.op .mul (.var 2) (.var 5)))) .nil)
def b12 : Ss := (.cons (.asg (.tg (.nm 3)) (.bi (.dict true) (.cons (.var 0) .nil))) (.cons (.for (.tp [(.nm 4), (.nm 5)]) (.ex (.var 1)) b12_f1) (.cons (.ret (.call 11 (.cons (.var 3) .nil))) .nil)))
/-! _law_some -/
def b13_f1 : Ss := (.cons (.asg (.tg (.nm 5)) (.bi .tuple (.cons (.lc (.call 6 (.cons (.var 0) (.cons (.cst (.int 3)) .nil))) (.nm 6) (.rng (.cst (.int 0)) (.var 1)) (.cst (.bl true)) [6]) .nil))) (.cons (.asg (.sub (.var 3) (.var 5)) (.call 7 (.cons (.var 0) (.cons (.lst (.cons (.cst (.int 1)) (.cons (.cst (.int 1)) (.cons (.cst (.int 1)) (.cons (.cst (.int 2)) (.cons (.neg (.cst (.int 1))) (.cons (.cst (.int 3)) .nil))))))) .nil)))) .nil))
def b13 : Ss := (.cons (.asg (.tg (.nm 3)) (.dic true .nil)) (.cons (.for (.nm 4) (.rng (.cst (.int 0)) (.call 6 (.cons (.var 0) (.cons (.op .add (.var 2) (.cst (.int 1))) .nil)))) b13_f1) (.cons (.ret (.call 11 (.cons (.var 3) .nil))) .nil)))
/-! law -/
def b14_l1 : E := (.call 6 (.cons (.var 1) (.cons (.var 3) .nil)))
def b14_l2 : E := (.op .mul (.op .add (.var 6) (.cst (.int 1))) (.ix (.var 10) (.ix (.var 5) (.var 6))))
def b14_f3 : Ss := (.cons (.asg (.tg (.nm 12)) (.op .mod (.bi .sum (.cons (.lc b14_l2 (.nm 6) (.rng (.cst (.int 0)) (.bi .len (.cons (.var 5) .nil))) (.cst (.bl true)) [6]) .nil)) (.var 4))) (.cons (.asg (.sub (.ix (.var 9) (.var 12)) (.var 10)) (.var 11)) (.cons (.ite (.not (.call 9 (.cons (.call 3 (.cons (.var 10) (.cons (.var 5) (.cons (.var 4) .nil)))) (.cons (.var 12) .nil)))) (.cons (.ret (.cst (.bl false))) .nil) .nil) .nil)))
def t1 : S := (.asg (.tg (.tp [(.nm 3), (.nm 4)])) (.tup (.cons (.op .add (.cst (.int 1)) (.call 6 (.cons (.var 1) (.cons (.cst (.int 3)) .nil)))) (.cons (.op .add (.cst (.int 1)) (.call 6 (.cons (.var 1) (.cons (.cst (.int 4)) .nil)))) .nil))))
def t2 : S := (.asg (.tg (.nm 5)) (.bi .tuple (.cons (.lc b14_l1 (.nm 6) (.rng (.cst (.int 0)) (.call 6 (.cons (.var 1) (.cons (.cst (.int 3)) .nil)))) (.cst (.bl true)) [6]) .nil)))
def t3 : S := (.asg (.tg (.nm 7)) (.call 13 (.cons (.var 1) (.cons (.var 3) (.cons (.cst (.int 8)) .nil)))))
def t4 : S := (.asg (.tg (.nm 7)) (.call 12 (.cons (.var 7) (.cons (.call 11 (.cons (.dic true (.cons (.bi .tuple (.cons (.lc (.op .sub (.call 6 (.cons (.var 1) (.cons (.cst (.int 9)) .nil))) (.cst (.int 4))) (.nm 8) (.rng (.cst (.int 0)) (.var 3)) (.cst (.bl true)) [8]) .nil)) (.cons (.cst (.int 2)) .nil))) .nil)) (.cons (.cst (.int 1)) .nil)))))
def t5 : S := (.asg (.tg (.nm 9)) (.lc (.dic true .nil) (.nm 6) (.rng (.cst (.int 0)) (.var 4)) (.cst (.bl true)) [6]))
def t6 : S := (.for (.tp [(.nm 10), (.nm 11)]) (.ex (.var 7)) b14_f3)
def t7 : S := (.ite (.not (.call 9 (.cons (.call 4 (.cons (.var 7) (.cons (.var 5) (.cons (.var 4) .nil)))) (.cons (.bi .tuple (.cons (.lc (.call 11 (.cons (.var 13) .nil)) (.nm 13) (.ex (.var 9)) (.cst (.bl true)) [13]) .nil)) .nil)))) (.cons (.ret (.cst (.bl false))) .nil) .nil)
def bT : Ss := (.cons t1 (.cons t2 (.cons t3 (.cons t4 (.cons t5 (.cons t6 (.cons t7 .nil)))))))
end Ev.B33
namespace Ev
open PySem B33
structure K33 (P : List FD) : Prop where
  h0 : P[0]? = some ⟨3, 5, b0⟩
  h1 : P[1]? = some ⟨1, 2, b1⟩
  h2 : P[2]? = some ⟨1, 2, b2⟩
  h3 : P[3]? = some ⟨3, 4, b3⟩
  h4 : P[4]? = some ⟨3, 7, b4⟩
  h5 : P[5]? = some ⟨2, 8, bDraws⟩
  h6 : P[6]? = some ⟨2, 2, bNext⟩
  h7 : P[7]? = some ⟨2, 2, (bPick 6)⟩
  h8 : P[8]? = some ⟨2, 2, bSays⟩
  h9 : P[9]? = some ⟨2, 3, (bSame 9)⟩
  h10 : P[10]? = some ⟨2, 2, b10⟩
  h11 : P[11]? = some ⟨1, 2, b11⟩
  h12 : P[12]? = some ⟨3, 6, b12⟩
  h13 : P[13]? = some ⟨3, 7, b13⟩
  h14 : P[14]? = some ⟨1, 14, bLawG 5 400 6 bT⟩
end Ev
namespace Ev
open PySem PySem.W B33
/-! ### k33: tables parted -/
def keysR' (T : List Rc) : List (List Int) := T.map (·.1)
theorem putR_keys (T : List Rc) (r : List Int) (z : Int) : keysR' (putR T r z) = if (T.any fun p => decide (p.1 = r)) = true then keysR' T else keysR' T ++ [r] := by
  unfold putR keysR'
  split
  · rw [List.map_map]
    refine List.map_congr_left fun p _ => ?_
    show (if p.1 = r then (p.1, z) else p).1 = p.1
    split <;> rfl
  · rw [List.map_append]; rfl
theorem putR_nodup {T : List Rc} (h : (keysR' T).Nodup) (r : List Int) (z : Int) : (keysR' (putR T r z)).Nodup := by
  rw [putR_keys]
  split
  · exact h
  · rename_i c
    refine List.nodup_append.mpr ⟨h, by simp, fun a ha b hb e => ?_⟩
    rw [List.mem_singleton.mp hb] at e
    subst e
    obtain ⟨p, hp, rfl⟩ := List.mem_map.mp ha
    exact c (List.any_eq_true.mpr ⟨p, hp, by simp⟩)
theorem putR_new {T : List Rc} {r : List Int} (h : r ∉ keysR' T) (z : Int) : putR T r z = T ++ [(r, z)] := by
  unfold putR
  rw [if_neg]
  intro c
  obtain ⟨p, hp, e⟩ := List.any_eq_true.mp c
  exact h (List.mem_map.mpr ⟨p, hp, of_decide_eq_true e⟩)
theorem getR_new {T : List Rc} {r : List Int} (h : r ∉ keysR' T) : getR T r = none := by
  unfold getR
  rw [Option.map_eq_none_iff, List.find?_eq_none]
  intro p hp e
  exact h (List.mem_map.mpr ⟨p, hp, of_decide_eq_true e⟩)
def addR (k : Int) (T : List Rc) (p : Rc) : List Rc := putR T p.1 ((getR T p.1).getD 0 + k * p.2)
def setR (T : List Rc) (p : Rc) : List Rc := putR T p.1 p.2
theorem fold_add : ∀ (U T : List Rc), (keysR' (T ++ U)).Nodup → U.foldl (addR 1) T = T ++ U
  | [], T, _ => by simp
  | p :: U, T, h => by
    have hp : p.1 ∉ keysR' T := fun hm => by
      unfold keysR' at h hm
      rw [List.map_append, List.map_cons] at h
      exact (List.nodup_append.mp h).2.2 _ hm _ List.mem_cons_self rfl
    have e : addR 1 T p = T ++ [p] := by
      unfold addR
      rw [getR_new hp, putR_new hp]
      simp
    rw [List.foldl_cons, e, fold_add U (T ++ [p]) (by simpa using h)]
    simp
theorem fold_set : ∀ (U T : List Rc), (keysR' (T ++ U)).Nodup → U.foldl setR T = T ++ U
  | [], T, _ => by simp
  | p :: U, T, h => by
    have hp : p.1 ∉ keysR' T := fun hm => by
      unfold keysR' at h hm
      rw [List.map_append, List.map_cons] at h
      exact (List.nodup_append.mp h).2.2 _ hm _ List.mem_cons_self rfl
    have e : setR T p = T ++ [p] := putR_new hp _
    rw [List.foldl_cons, e, fold_set U (T ++ [p]) (by simpa using h)]
    simp
theorem addR_len (k : Int) : ∀ (U T : List Rc), (U.foldl (addR k) T).length ≤ T.length + U.length
  | [], T => Nat.le_refl _
  | p :: U, T => by
    have h1 := addR_len k U (addR k T p)
    have h2 := putR_len T p.1 ((getR T p.1).getD 0 + k * p.2)
    have h2 : (addR k T p).length ≤ T.length + 1 := h2
    rw [List.foldl_cons, List.length_cons]
    omega
theorem merge_R : ∀ (U T : List Rc), dmerge (T.map rcE) (U.map fun x => (tI0 x.1, D.int x.2)) = (U.foldl setR T).map rcE
  | [], T => rfl
  | p :: U, T => by
    show dmerge (dput (T.map rcE) (tI0 p.1) (.int p.2)) (U.map _) = _
    rw [dput_R]
    exact merge_R U (setR T p)
/-- a table of counts -/
def tabOf (T : List Rc) : List Rc := ((srtR (keysR' T)).filter fun r => !decide (getR T r = some 0)).map fun r => (r, (getR T r).getD 0)
structure Gd (w n : Nat) (T : List Rc) : Prop where
  nd : (keysR' T).Nodup
  l : ∀ p ∈ T, p.1.length = w
  n : T.length ≤ n
theorem tabOf_gd {w n : Nat} {T : List Rc} (h : Gd w n T) : Gd w n (tabOf T) := by
  have e : keysR' (tabOf T) = (srtR (keysR' T)).filter fun r => !decide (getR T r = some 0) := by
    unfold keysR' tabOf
    rw [List.map_map]
    show (List.filter _ _).map id = _
    rw [List.map_id]
    rfl
  refine ⟨by rw [e]; exact ((srtR_perm _).nodup_iff.mpr h.nd).filter _, fun p hp => ?_, ?_⟩
  · have : p.1 ∈ keysR' (tabOf T) := List.mem_map.mpr ⟨p, hp, rfl⟩
    rw [e] at this
    obtain ⟨q, hq, e2⟩ := List.mem_map.mp ((srtR_perm _).mem_iff.mp (List.mem_filter.mp this).1)
    rw [← e2]
    exact h.l q hq
  · unfold tabOf
    rw [List.length_map]
    refine Nat.le_trans (List.length_filter_le _ _) ?_
    rw [(srtR_perm _).length_eq]
    unfold keysR'
    rw [List.length_map]
    exact h.n
theorem put_gd {w n : Nat} {T : List Rc} (h : Gd w n T) {r : List Int} (hr : r.length = w) (z : Int) : Gd w (n + 1) (putR T r z) := by
  refine ⟨putR_nodup h.nd r z, fun p hp => ?_, Nat.le_trans (putR_len T r z) (by have := h.n; omega)⟩
  rcases putR_mem hp with ⟨q, h1, h2⟩ | h1
  · rw [← h2]; exact h.l q h1
  · rw [h1]; exact hr
theorem fold_gd {w : Nat} (f : List Rc → Rc → Int) : ∀ (U : List Rc) {n : Nat} {T : List Rc}, Gd w n T → (∀ p ∈ U, p.1.length = w) → Gd w (n + U.length) (U.foldl (fun T p => putR T p.1 (f T p)) T)
  | [], n, T, h, _ => h
  | p :: U, n, T, h, hu => by
    have := fold_gd f U (put_gd h (hu p List.mem_cons_self) (f T p)) fun q hq => hu q (List.mem_cons_of_mem _ hq)
    rw [List.foldl_cons, List.length_cons, show n + (U.length + 1) = n + 1 + U.length by omega]
    exact this
def tabX (T : List Rc) : D := .xt (T.map rcD)
def pl33 (pl : List Nat) : D := .tup (pl.map fun n : Nat => D.int (n : Int))
def hsum (row : List Int) (pl : List Nat) : Int := ((List.range pl.length).map fun j : Nat => ((j : Int) + 1) * row.getD (pl.getD j 0) 0).sum
section
variable [Tab] {P : List FD} {i k n q w : Nat} {cf : Cf} {v : Env} {M : Mem} {row : List Int} {pl : List Nat} {T U : List Rc}
theorem tab_gen {j : Nat} (h : P[j]? = some ⟨1, 2, b11⟩) (g : Gd w n T) (h0 : 0 < w) (hq : M[q]? = some (.dic true (T.map rcE))) (hk : 1 ≤ k) :
    callAt P k j [.ref q] M = some (tabX (tabOf T), M) := by
  obtain ⟨k, rfl⟩ : ∃ z, k = z + 1 := ⟨k - 1, by omega⟩
  have l2 : (2 : Nat) ≤ line := by decide
  have hr : ∀ r ∈ keysR' T, r.length = w := fun r hr => by
    obtain ⟨p, hp, rfl⟩ := List.mem_map.mp hr
    exact g.l p hp
  have es := sorted_rows (M := M) (x := .v (.ref q)) (l := keysR' T) (n := w) (by rw [drawsOf_r, hq, rDraws_dic, List.map_map]; unfold keysR'; rw [List.map_map]; rfl) hr h0
  have hm : ∀ r ∈ srtR (keysR' T), ∃ p ∈ T, p.1 = r := fun r hr => List.mem_map.mp ((srtR_perm _).mem_iff.mp hr)
  rw [call_eq h rfl]
  simp [b11, es]
  rw [w_lcf tI0 (fun r => rcD (r, (getR T r).getD 0)) (fun r => !decide (getR T r = some 0)) rfl (fun r hr => by
    obtain ⟨p, hp, rfl⟩ := hm r hr
    obtain ⟨z, hz⟩ := getR_mem hp
    by_cases c : z = 0
    · subst c
      simp [hq, key_tI0, dget_R, hz]
    · simp [b11_l1, hq, key_tI0, dget_R, hz, c, l2, rcD])]
  simp [fin_self]
  show D.xt _ = D.xt _
  unfold tabOf
  rw [List.map_map]
  rfl
theorem mul_left {a b : Int} (h : -1000 ≤ a ∧ a ≤ 1000) : mulOk a b = true := by
  unfold mulOk
  have h1 : decide (-(2 ^ 64) < a) = true := decide_eq_true (by omega)
  have h2 : decide (a < 2 ^ 64) = true := decide_eq_true (by omega)
  rw [h1, h2]
  rfl
theorem getD_int' (o : Option Int) : (o.map D.int).getD (.int 0) = .int (o.getD 0) := by cases o <;> rfl
/-- counts taken from a list of pairs -/
theorem add_k (K : K33 P) (hqr : q ≠ n) (hq : M[q]? = some (.dic true (T.map rcE))) (hr : M[n]? = some (.lst (U.map rcD))) (hl : T.length + U.length ≤ 1000) (hk : 1 ≤ k) :
    callAt P k 0 [.ref q, .ref n, .int 1] M = some (.non, M.set q (.dic true ((U.foldl (addR 1) T).map rcE))) := by
  obtain ⟨k, rfl⟩ : ∃ z, k = z + 1 := ⟨k - 1, by omega⟩
  have hline : line = 16000000 := rfl
  rw [call_eq K.h0 rfl]
  refine of_WP (WP.hide fun Q0 hQ0 => ?_)
  simp [b0, hr]
  try simp only [bnd_bnd]
  refine WP.bnd (w_forW rcD (fun dn v M' => ∃ o3 o4, v = [some (.ref q), some (.ref n), some (.int 1), o3, o4] ∧ M' = M.set q (.dic true ((dn.foldl (addR 1) T).map rcE))) (fun dn v M' hI => ?_) U ?_ ?_) ?_
  · obtain ⟨_, _, _, rfl⟩ := hI
    simp [List.getElem?_set_ne hqr, hr]
  · exact ⟨_, _, rfl, by rw [List.foldl_nil, set_sameW hq]⟩
  · rintro dn p r v M' hd ⟨o3, o4, rfl, rfl⟩
    have hdl := addR_len 1 dn T
    have hUl : dn.length ≤ U.length := by rw [hd]; simp
    have e1 := addR_len 1 dn T
    have hl2 : (dn.foldl (addR 1) T).length < line := by omega
    refine WP.hide fun Q hQ => ?_
    have hq2 : (M.set q (.dic true ((dn.foldl (addR 1) T).map rcE)))[q]? = some (.dic true ((dn.foldl (addR 1) T).map rcE)) := by rw [set_selfW, hq]; rfl
    have hm : mulOk 1 p.2 = true := mul_left (by omega)
    have hdp : dput ((dn.foldl (addR 1) T).map rcE) (tI0 p.1) (.int ((getR (dn.foldl (addR 1) T) p.1).getD 0 + p.2)) = ((dn ++ [p]).foldl (addR 1) T).map rcE := by
      rw [dput_R, List.foldl_append]
      simp [addR]
    simp [b0_f1, rcD, hq2, key_tI0, dget_R, getD_int', hm, hl2, hdp]
    exact WP.fin hQ ⟨rfl, _, _, rfl, by simp⟩
  · rintro ⟨fl, v⟩ M' ⟨_, e, o3, o4, rfl, rfl⟩
    cases e
    simp
    refine WP.fin hQ0 ?_
    exact congrArg some (fin_same (by simp))
end
end Ev
namespace Ev
open PySem PySem.W B33
/-! ### k33: the parts -/
section
variable [Tab] {cf : Cf} {v : Env} {M X : Mem}
theorem w_cells {body : D → Mem → Option (Option D × Mem)} {o : MO} (hb : ∀ d M, body d M = some (some (.ref M.length), M ++ [o])) : ∀ (l : List D) (M : Mem), lcLoop body none l M = some ((List.range l.length).map (fun j => D.ref (M.length + j)), M ++ List.replicate l.length o)
  | [], M => by rw [lcLoop, if_pos still_none]; simp
  | d :: l, M => by
    rw [lcLoop, if_pos still_none, hb, bnd_some, w_cells hb l (M ++ [o]), bnd_some]
    simp [List.range_succ_eq_map, Function.comp_def, List.replicate_succ, Nat.add_assoc, Nat.add_comm 1]
theorem cell_at {α : Type} (f : α → MO) {Ls : List α} {j : Nat} (hj : j < Ls.length) : (M ++ (Ls.map f ++ X))[M.length + j]? = (Ls[j]?).map f := by
  rw [List.getElem?_append_right (by omega), Nat.add_sub_cancel_left, List.getElem?_append_left (by simpa using hj), List.getElem?_map]
theorem cell_set {α : Type} (f : α → MO) {Ls : List α} {j : Nat} (hj : j < Ls.length) (T : α) : (M ++ (Ls.map f ++ X)).set (M.length + j) (f T) = M ++ ((Ls.set j T).map f ++ X) := by
  rw [List.set_append_right _ _ (by omega), Nat.add_sub_cancel_left, List.set_append_left _ _ (by simpa using hj), List.map_set]
end
def dist (step : List Rc → Rc → List Rc) (home : Rc → Nat) (many : Nat) (dn : List Rc) : List (List Rc) := (List.range many).map fun j => (dn.filter fun p => decide (home p = j)).foldl step []
theorem dist_len (step : List Rc → Rc → List Rc) (home : Rc → Nat) (many : Nat) (dn : List Rc) : (dist step home many dn).length = many := by simp [dist]
theorem dist_at {step : List Rc → Rc → List Rc} {home : Rc → Nat} {many : Nat} {dn : List Rc} {j : Nat} (hj : j < many) : (dist step home many dn)[j]? = some ((dn.filter fun p => decide (home p = j)).foldl step []) := by
  unfold dist
  rw [List.getElem?_map, List.getElem?_range hj]
  rfl
theorem dist_snoc {step : List Rc → Rc → List Rc} {home : Rc → Nat} {many : Nat} {dn : List Rc} {p : Rc} (hj : home p < many) :
    dist step home many (dn ++ [p]) = (dist step home many dn).set (home p) (step ((dn.filter fun q => decide (home q = home p)).foldl step []) p) := by
  refine List.ext_getElem? fun j => ?_
  by_cases c : j < many
  · rw [dist_at c, List.getElem?_set]
    by_cases e : home p = j
    · subst e
      rw [if_pos rfl, if_pos (by rw [dist_len]; exact c), List.filter_append, List.foldl_append]
      simp
    · rw [if_neg e, dist_at c, List.filter_append]
      simp [e]
  · rw [List.getElem?_eq_none (by rw [dist_len]; omega), List.getElem?_eq_none (by rw [List.length_set, dist_len]; omega)]
def snocR (T : List Rc) (p : Rc) : List Rc := T ++ [p]
theorem fold_snoc : ∀ (U T : List Rc), U.foldl snocR T = T ++ U
  | [], T => by simp
  | p :: U, T => by rw [List.foldl_cons, fold_snoc U]; simp [snocR]
def homeN (pl : List Nat) (many : Nat) (p : Rc) : Nat := (hsum p.1 pl % (many : Int)).toNat
theorem home_lt {pl : List Nat} {many : Nat} (h : 0 < many) (p : Rc) : homeN pl many p < many ∧ ((homeN pl many p : Nat) : Int) = hsum p.1 pl % (many : Int) := by
  have h1 := Int.emod_nonneg (hsum p.1 pl) (show (many : Int) ≠ 0 by omega)
  have h2 := Int.emod_lt_of_pos (hsum p.1 pl) (show 0 < (many : Int) by omega)
  unfold homeN
  omega
def partL (pl : List Nat) (many : Nat) (U : List Rc) (j : Nat) : List Rc := U.filter fun p => decide (homeN pl many p = j)
theorem part_gd {w n many : Nat} {pl : List Nat} {U : List Rc} (g : Gd w n U) (j : Nat) : Gd w n (partL pl many U j) := by
  refine ⟨?_, fun p hp => g.l p (List.mem_filter.mp hp).1, Nat.le_trans (List.length_filter_le _ _) g.n⟩
  unfold keysR' partL
  exact ((List.filter_sublist (l := U)).map _).nodup g.nd
def partsD (pl : List Nat) (many : Nat) (U : List Rc) : D := .tup ((List.range many).map fun j => tabX (tabOf (partL pl many U j)))
section
variable [Tab] {P : List FD} {i k n q w : Nat} {cf : Cf} {v : Env} {M : Mem} {row : List Int} {pl : List Nat} {T U : List Rc} {many : Nat}
theorem tableof_k (K : K33 P) {m : Nat} (g : Gd w m U) (hm : m ≤ 900) (h0 : 0 < w) (hr : M[n]? = some (.lst (U.map rcD))) (hk : 2 ≤ k) : callAt P k 2 [.ref n] M = some (tabX (tabOf U), M) := by
  obtain ⟨k, rfl⟩ : ∃ z, k = z + 1 := ⟨k - 1, by omega⟩
  have hn := (List.getElem?_eq_some_iff.mp hr).1
  have e1 := add_k (k := k) (M := M ++ [MO.dic true []]) (q := M.length) (n := n) (T := []) (U := U) K (by omega) (at_here _ _) (by rw [app_at _ hn]; exact hr) (by have := g.n; simp; omega) (by omega)
  rw [fold_add U [] (by simpa using g.nd), List.nil_append] at e1
  have e2 := tab_gen (k := k) (j := 1) (M := (M ++ [MO.dic true []]).set M.length (.dic true (U.map rcE))) (q := M.length) K.h1 g h0 (by simp) (by omega)
  simp at e1 e2
  rw [call_eq K.h2 rfl]
  simp [b2, e1, e2]
  exact fin_P (show (tabX (tabOf U)).pure = true from En.pure (tabOf U)) _
theorem hsum_ev {body : D → Mem → Option (Option D × Mem)} (hb : ∀ j : Nat, j < pl.length → body (.int (j : Int)) M = some (some (.int (((j : Int) + 1) * row.getD (pl.getD j 0) 0)), M)) :
    lcLoop body none ((List.range pl.length).map fun j : Nat => D.int (j : Int)) M = some (((List.range pl.length).map fun j : Nat => ((j : Int) + 1) * row.getD (pl.getD j 0) 0).map D.int, M) := by
  rw [w_lcm (fun j : Nat => D.int (j : Int)) (fun j => D.int (((j : Int) + 1) * row.getD (pl.getD j 0) 0)) rfl (fun j hj => hb j (List.mem_range.mp hj)), List.map_map]
  rfl
theorem partof_k (K : K33 P) (hp : ∀ i ∈ pl, i < row.length) (hl : pl.length ≤ 100) (h0 : 0 < many) (hk : 1 ≤ k) : callAt P k 3 [tI0 row, pl33 pl, .int (many : Int)] M = some (.int (hsum row pl % (many : Int)), M) := by
  obtain ⟨k, rfl⟩ : ∃ z, k = z + 1 := ⟨k - 1, by omega⟩
  have ok : rOk 0 (pl.length : Int) := rOk_of (by omega)
  have es := sum_items (M := M) (x := .l (((List.range pl.length).map fun j : Nat => ((j : Int) + 1) * row.getD (pl.getD j 0) 0).map D.int)) rfl
  rw [call_eq K.h3 rfl]
  simp [b3, pl33, ok]
  rw [rangeZ, hsum_ev (row := row) (fun j hj => by
    have e1 : pl[j]? = some pl[j] := List.getElem?_eq_getElem hj
    have h2 : pl[j] < row.length := hp _ (List.getElem_mem hj)
    have e2 : row[pl[j]]? = some row[pl[j]] := List.getElem?_eq_getElem h2
    have hm : mulOk ((j : Int) + 1) row[pl[j]] = true := mul_left (by omega)
    simp [b3_l1, tI0, e1, e2, hm])]
  rw [bnd_some]
  have hs : ((List.range pl.length).map fun j : Nat => ((j : Int) + 1) * row.getD (pl.getD j 0) 0).sum = hsum row pl := rfl
  rw [hs] at es
  generalize ((List.range pl.length).map fun j : Nat => ((j : Int) + 1) * row.getD (pl.getD j 0) 0) = L at es
  simp [es, h0, fin_self]
theorem parts_k (K : K33 P) {m : Nat} (g : Gd w m U) (hm : m ≤ 900) (h0 : 0 < w) (hp : ∀ i ∈ pl, i < w) (hl : pl.length ≤ 100) (hmany : 0 < many) (hmany2 : many ≤ 100) (hk : 4 ≤ k) :
    callAt P k 4 [tabX U, pl33 pl, .int (many : Int)] M = some (partsD pl many U, M) := by
  obtain ⟨k, rfl⟩ : ∃ z, k = z + 1 := ⟨k - 1, by omega⟩
  have hline : line = 16000000 := rfl
  have l0 : (0 : Nat) ≤ line := by decide
  have ok : rOk 0 (many : Int) := rOk_of (by omega)
  have hrl : (rangeD 0 (many : Int)).length = many := by simp [rangeD]
  rw [call_eq K.h4 rfl]
  refine of_WP (WP.hide fun Q0 hQ0 => ?_)
  simp [b4, ok]
  rw [w_cells (o := MO.lst []) (fun d M => by simp [l0]), hrl]
  have hd0 : dist snocR (homeN pl many) many [] = List.replicate many [] := by
    unfold dist
    simp [List.map_const']
  have hst : List.replicate many (MO.lst []) = (dist snocR (homeN pl many) many []).map fun T => MO.lst (T.map rcD) := by rw [hd0]; simp
  rw [hst]
  simp [tabX]
  try simp only [bnd_bnd]
  have hlen : ∀ dn, ((dist snocR (homeN pl many) many dn).map fun T => MO.lst (T.map rcD)).length = many := fun dn => by rw [List.length_map, dist_len]
  have hrows : ∀ dn, (M ++ (((dist snocR (homeN pl many) many dn).map fun T => MO.lst (T.map rcD)) ++ [MO.lst ((List.range many).map fun j => D.ref (M.length + j))]))[M.length + many]? = some (.lst ((List.range many).map fun j => D.ref (M.length + j))) := fun dn => by
    rw [List.getElem?_append_right (by omega), Nat.add_sub_cancel_left, List.getElem?_append_right (by rw [hlen]; omega), hlen, Nat.sub_self]
    rfl
  refine WP.bnd (w_forW rcD (fun dn v M' => ∃ o5, v = [some (.xt (U.map rcD)), some (pl33 pl), some (.int (many : Int)), some (.ref (M.length + many)), none, o5, none] ∧ M' = M ++ (((dist snocR (homeN pl many) many dn).map fun T => MO.lst (T.map rcD)) ++ [MO.lst ((List.range many).map fun j => D.ref (M.length + j))])) (fun _ _ _ _ => rfl) U ?_ ?_) ?_
  · exact ⟨none, by simp [dist_len], rfl⟩
  · rintro dn p r v M' hd ⟨o5, rfl, rfl⟩
    have hpU : p ∈ U := by rw [hd]; simp
    have hdl : dn.length ≤ 900 := by have := g.n; rw [hd] at this; simp at this; omega
    obtain ⟨hh1, hh2⟩ := home_lt (pl := pl) hmany p
    have e1 := partof_k (k := k) (M := M ++ (((dist snocR (homeN pl many) many dn).map fun T => MO.lst (T.map rcD)) ++ [MO.lst ((List.range many).map fun j => D.ref (M.length + j))])) (row := p.1) (pl := pl) (many := many) K (by rw [g.l p hpU]; exact hp) hl hmany (by omega)
    rw [← hh2] at e1
    have ca := cell_at (M := M) (X := [MO.lst ((List.range many).map fun j => D.ref (M.length + j))]) (fun T : List Rc => MO.lst (T.map rcD)) (Ls := dist snocR (homeN pl many) many dn) (j := homeN pl many p) (by rw [dist_len]; exact hh1)
    rw [dist_at hh1] at ca
    have cs := cell_set (M := M) (X := [MO.lst ((List.range many).map fun j => D.ref (M.length + j))]) (fun T : List Rc => MO.lst (T.map rcD)) (Ls := dist snocR (homeN pl many) many dn) (j := homeN pl many p) (by rw [dist_len]; exact hh1) (snocR ((dn.filter fun q => decide (homeN pl many q = homeN pl many p)).foldl snocR []) p)
    rw [← dist_snoc hh1] at cs
    have hr := hrows dn
    have hall : ((dn.filter fun q => decide (homeN pl many q = homeN pl many p)).foldl snocR []).length < line := by
      rw [fold_snoc, List.nil_append]
      have := List.length_filter_le (fun q => decide (homeN pl many q = homeN pl many p)) dn
      omega
    refine WP.hide fun Q hQ => ?_
    generalize (dn.filter fun q => decide (homeN pl many q = homeN pl many p)).foldl snocR [] = F at ca cs hall
    generalize M ++ (((dist snocR (homeN pl many) many dn).map fun T => MO.lst (T.map rcD)) ++ [MO.lst ((List.range many).map fun j => D.ref (M.length + j))]) = Mx at e1 ca cs hr ⊢
    have hix : ((List.range many).map fun j => D.ref (M.length + j))[homeN pl many p]? = some (.ref (M.length + homeN pl many p)) := by
      rw [List.getElem?_map, List.getElem?_range hh1]
      rfl
    have ca : Mx[M.length + homeN pl many p]? = some (.lst (F.map rcD)) := ca
    have hF : (F.map rcD).length < line := by rw [List.length_map]; exact hall
    have hs : ((snocR F p).map rcD) = F.map rcD ++ [rcD p] := by simp [snocR]
    rw [hs] at cs
    generalize (List.range many).map (fun j => D.ref (M.length + j)) = refs at hr hix hQ cs ⊢
    generalize F.map rcD = FD at ca hF cs
    simp [rcD] at cs
    simp [b4_f1, rcD, e1, hr, hix, ca, hF]
    exact WP.fin hQ ⟨rfl, _, rfl, cs⟩
  · rintro ⟨fl, v⟩ M' ⟨_, e, o5, rfl, rfl⟩
    cases e
    have hr := hrows U
    have ht : ∀ j, j < many → callAt P k 2 [.ref (M.length + j)] (M ++ (((dist snocR (homeN pl many) many U).map fun T => MO.lst (T.map rcD)) ++ [MO.lst ((List.range many).map fun j => D.ref (M.length + j))])) = some (tabX (tabOf (partL pl many U j)), M ++ (((dist snocR (homeN pl many) many U).map fun T => MO.lst (T.map rcD)) ++ [MO.lst ((List.range many).map fun j => D.ref (M.length + j))])) := fun j hj => by
      refine tableof_k K (part_gd g j) hm h0 ?_ (by omega)
      rw [cell_at (fun T : List Rc => MO.lst (T.map rcD)) (by rw [dist_len]; exact hj), dist_at hj, fold_snoc, List.nil_append]
      rfl
    have hfin := fun Y => fin_P (M := M) (d := partsD pl many U) (pures_iff.mpr (fun d hd => by
      obtain ⟨j, _, rfl⟩ := List.mem_map.mp hd
      exact En.pure (tabOf (partL pl many U j)))) Y
    have hf := hfin (((dist snocR (homeN pl many) many U).map fun T => MO.lst (T.map rcD)) ++ [MO.lst ((List.range many).map fun j => D.ref (M.length + j))])
    generalize M ++ (((dist snocR (homeN pl many) many U).map fun T => MO.lst (T.map rcD)) ++ [MO.lst ((List.range many).map fun j => D.ref (M.length + j))]) = Mx at hr ht hf
    simp [hr]
    rw [w_lcm (fun j : Nat => D.ref (M.length + j)) (fun j => tabX (tabOf (partL pl many U j))) (by simp [hr]) (fun j hj => by simp [ht j (List.mem_range.mp hj)])]
    simp
    exact WP.fin hQ0 (congrArg some hf)
end
end Ev
namespace Ev.B50
open PySem
/-! at_places -/
def b0 : Ss := (.cons (.ret (.bi .tuple (.cons (.lc (.ix (.var 0) (.var 2)) (.nm 2) (.ex (.var 1)) (.cst (.bl true)) [2]) .nil))) .nil)
/-! sum_at -/
def b1 : Ss := (.cons (.ite (.op .eq (.ix (.var 0) (.cst (.int 0))) (.cst (.str "col"))) (.cons (.ret (.ix (.var 1) (.ix (.var 0) (.cst (.int 1))))) .nil) .nil) (.cons (.ite (.op .eq (.ix (.var 0) (.cst (.int 0))) (.cst (.str "num"))) (.cons (.ret (.ix (.var 0) (.cst (.int 1)))) .nil) .nil) (.cons (.asg (.tg (.nm 2)) (.call 1 (.cons (.ix (.var 0) (.cst (.int 1))) (.cons (.var 1) .nil)))) (.cons (.ite (.op .eq (.ix (.var 0) (.cst (.int 0))) (.cst (.str "neg"))) (.cons (.ret (.neg (.var 2))) .nil) .nil) (.cons (.asg (.tg (.nm 3)) (.call 1 (.cons (.ix (.var 0) (.cst (.int 2))) (.cons (.var 1) .nil)))) (.cons (.ret (.ite (.op .eq (.ix (.var 0) (.cst (.int 0))) (.cst (.str "add"))) (.op .add (.var 2) (.var 3)) (.op .mul (.var 2) (.var 3)))) .nil))))))
/-! holds -/
def b2 : Ss := (.cons (.ite (.op .eq (.ix (.var 0) (.cst (.int 0))) (.cst (.str "not"))) (.cons (.ret (.not (.call 2 (.cons (.ix (.var 0) (.cst (.int 1))) (.cons (.var 1) .nil))))) .nil) .nil) (.cons (.ite (.op .eq (.ix (.var 0) (.cst (.int 0))) (.cst (.str "same"))) (.cons (.ret (.op .eq (.call 1 (.cons (.ix (.var 0) (.cst (.int 1))) (.cons (.var 1) .nil))) (.call 1 (.cons (.ix (.var 0) (.cst (.int 2))) (.cons (.var 1) .nil))))) .nil) .nil) (.cons (.ite (.op .eq (.ix (.var 0) (.cst (.int 0))) (.cst (.str "below"))) (.cons (.ret (.op .lt (.call 1 (.cons (.ix (.var 0) (.cst (.int 1))) (.cons (.var 1) .nil))) (.call 1 (.cons (.ix (.var 0) (.cst (.int 2))) (.cons (.var 1) .nil))))) .nil) .nil) (.cons (.par [2, 3] (.cons (.call 2 (.cons (.ix (.var 0) (.cst (.int 1))) (.cons (.var 1) .nil))) (.cons (.call 2 (.cons (.ix (.var 0) (.cst (.int 2))) (.cons (.var 1) .nil))) .nil))) (.cons (.ret (.ite (.op .eq (.ix (.var 0) (.cst (.int 0))) (.cst (.str "and"))) (.and (.var 2) (.var 3)) (.or (.var 2) (.var 3)))) .nil)))))
/-! crowded_row -/
def b3_f1 : Ss := (.cons (.asg (.tg (.nm 6)) (.call 0 (.cons (.var 4) (.cons (.var 0) .nil)))) (.cons (.asg (.sub (.var 3) (.var 6)) (.op .add (.meth (.var 3) none (some .get) (.cons (.var 6) (.cons (.cst (.int 0)) .nil))) (.var 5))) (.cons (.ite (.op .gt (.ix (.var 3) (.var 6)) (.var 1)) (.cons (.ret (.var 4)) .nil) .nil) .nil)))
def b3 : Ss := (.cons (.asg (.tg (.nm 3)) (.dic true .nil)) (.cons (.for (.tp [(.nm 4), (.nm 5)]) (.ex (.var 2)) b3_f1) (.cons (.ret (.cst .non)) .nil)))
/-! lonely_row -/
def b4_l1 : E := (.tup (.cons (.call 0 (.cons (.var 5) (.cons (.var 1) .nil))) (.cons (.cst (.bl true)) .nil)))
def b4 : Ss := (.cons (.asg (.tg (.nm 4)) (.bi (.dict true) (.cons (.lc b4_l1 (.tp [(.nm 5), (.nm 6)]) (.ex (.var 3)) (.cst (.bl true)) [5, 6]) .nil))) (.cons (.asg (.tg (.nm 7)) (.lc (.var 5) (.tp [(.nm 5), (.nm 6)]) (.ex (.var 2)) (.op .notin (.call 0 (.cons (.var 5) (.cons (.var 0) .nil))) (.var 4)) [5, 6])) (.cons (.ret (.ite (.op .ne (.var 7) (.lst .nil)) (.ix (.var 7) (.cst (.int 0))) (.cst .non))) .nil)))
/-! fault_of -/
def b5 : Ss := (.cons (.asg (.tg (.nm 2)) (.ix (.var 1) (.ix (.var 0) (.cst (.int 1))))) (.cons (.ite (.op .eq (.ix (.var 0) (.cst (.int 0))) (.cst (.str "key"))) (.cons (.ret (.call 3 (.cons (.ix (.var 0) (.cst (.int 2))) (.cons (.cst (.int 1)) (.cons (.var 2) .nil))))) .nil) .nil) (.cons (.ite (.op .eq (.ix (.var 0) (.cst (.int 0))) (.cst (.str "most"))) (.cons (.ret (.call 3 (.cons (.ix (.var 0) (.cst (.int 2))) (.cons (.ix (.var 0) (.cst (.int 3))) (.cons (.var 2) .nil))))) .nil) .nil) (.cons (.ite (.op .eq (.ix (.var 0) (.cst (.int 0))) (.cst (.str "ref"))) (.cons (.ret (.call 4 (.cons (.ix (.var 0) (.cst (.int 2))) (.cons (.ix (.var 0) (.cst (.int 4))) (.cons (.var 2) (.cons (.ix (.var 1) (.ix (.var 0) (.cst (.int 3)))) .nil)))))) .nil) .nil) (.cons (.asg (.tg (.nm 3)) (.lc (.var 4) (.tp [(.nm 4), (.nm 5)]) (.ex (.var 2)) (.not (.call 2 (.cons (.ix (.var 0) (.cst (.int 2))) (.cons (.var 4) .nil)))) [4, 5])) (.cons (.ret (.ite (.op .ne (.var 3) (.lst .nil)) (.ix (.var 3) (.cst (.int 0))) (.cst .non))) .nil))))))
/-! first_fault -/
def b6_f1 : Ss := (.cons (.asg (.tg (.nm 3)) (.call 5 (.cons (.ix (.var 0) (.var 2)) (.cons (.var 1) .nil)))) (.cons (.ite (.op .isnot (.var 3) (.cst .non)) (.cons (.ret (.tup (.cons (.var 2) (.cons (.var 3) .nil)))) .nil) .nil) .nil))
def b6 : Ss := (.cons (.for (.nm 2) (.rng (.cst (.int 0)) (.bi .len (.cons (.var 0) .nil))) b6_f1) (.cons (.ret (.cst .non)) .nil))
/-! _law_number -/
def b12 : Ss := (.cons (.ret (.and (.isi (.var 0) .int) (.and (.not (.isi (.var 0) .bool)) (.op .ge (.var 0) (.var 1))))) .nil)
/-! _law_table -/
def b13_l1 : E := (.tup (.cons (.var 1) (.cons (.ix (.var 0) (.var 1)) .nil)))
def b13 : Ss := (.cons (.ret (.bi .tuple (.cons (.lc b13_l1 (.nm 1) (.ex (.bi .sorted (.cons (.var 0) .nil))) (.op .ne (.ix (.var 0) (.var 1)) (.cst (.int 0))) [1]) .nil))) .nil)
/-! _law_plus -/
def b14_f1 : Ss := (.cons (.asg (.sub (.var 3) (.var 4)) (.op .add (.meth (.var 3) none (some .get) (.cons (.var 4) (.cons (.cst (.int 0)) .nil))) (.op .mul (.var 2) (.var 5)))) .nil)
def b14 : Ss := (.cons (.asg (.tg (.nm 3)) (.bi (.dict true) (.cons (.var 0) .nil))) (.cons (.for (.tp [(.nm 4), (.nm 5)]) (.ex (.var 1)) b14_f1) (.cons (.ret (.call 13 (.cons (.var 3) .nil))) .nil)))
/-! _law_some -/
def b15_f1 : Ss := (.cons (.asg (.tg (.nm 5)) (.bi .tuple (.cons (.lc (.call 8 (.cons (.var 0) (.cons (.cst (.int 3)) .nil))) (.nm 6) (.rng (.cst (.int 0)) (.var 1)) (.cst (.bl true)) [6]) .nil))) (.cons (.asg (.sub (.var 3) (.var 5)) (.call 9 (.cons (.var 0) (.cons (.lst (.cons (.cst (.int 1)) (.cons (.cst (.int 1)) (.cons (.cst (.int 1)) (.cons (.cst (.int 2)) (.cons (.neg (.cst (.int 1))) (.cons (.cst (.int 3)) .nil))))))) .nil)))) .nil))
def b15 : Ss := (.cons (.asg (.tg (.nm 3)) (.dic true .nil)) (.cons (.for (.nm 4) (.rng (.cst (.int 0)) (.call 8 (.cons (.var 0) (.cons (.op .add (.var 2) (.cst (.int 1))) .nil)))) b15_f1) (.cons (.ret (.call 13 (.cons (.var 3) .nil))) .nil)))
/-! _law_value -/
def b16_l1 : E := (.call 16 (.cons (.var 3) (.cons (.var 1) .nil)))
def b16 : Ss := (.cons (.ite (.op .eq (.ix (.var 0) (.cst (.int 0))) (.cst (.str "col"))) (.cons (.ret (.ix (.var 1) (.ix (.var 0) (.cst (.int 1))))) .nil) .nil) (.cons (.ite (.op .eq (.ix (.var 0) (.cst (.int 0))) (.cst (.str "num"))) (.cons (.ret (.ix (.var 0) (.cst (.int 1)))) .nil) .nil) (.cons (.asg (.tg (.nm 2)) (.lc b16_l1 (.nm 3) (.ex (.sl (.var 0) (.op .sub (.cst (.int 1)) (.cst (.int 0))) (.cst .non))) (.cst (.bl true)) [3])) (.cons (.ite (.op .eq (.ix (.var 0) (.cst (.int 0))) (.cst (.str "neg"))) (.cons (.ret (.op .sub (.cst (.int 0)) (.ix (.var 2) (.cst (.int 0))))) .nil) .nil) (.cons (.ret (.ite (.op .eq (.ix (.var 0) (.cst (.int 0))) (.cst (.str "add"))) (.op .add (.ix (.var 2) (.cst (.int 0))) (.ix (.var 2) (.cst (.int 1)))) (.op .mul (.ix (.var 2) (.cst (.int 0))) (.ix (.var 2) (.cst (.int 1)))))) .nil)))))
/-! _law_holds -/
def b17_l1 : E := (.call 17 (.cons (.var 5) (.cons (.var 1) .nil)))
def b17 : Ss := (.cons (.ite (.op .isin (.ix (.var 0) (.cst (.int 0))) (.tup (.cons (.cst (.str "same")) (.cons (.cst (.str "below")) .nil)))) (.cons (.par [2, 3] (.cons (.call 16 (.cons (.ix (.var 0) (.cst (.int 1))) (.cons (.var 1) .nil))) (.cons (.call 16 (.cons (.ix (.var 0) (.cst (.int 2))) (.cons (.var 1) .nil))) .nil))) (.cons (.ret (.ite (.op .eq (.ix (.var 0) (.cst (.int 0))) (.cst (.str "same"))) (.op .eq (.var 2) (.var 3)) (.op .lt (.var 2) (.var 3)))) .nil)) .nil) (.cons (.asg (.tg (.nm 4)) (.lc b17_l1 (.nm 5) (.ex (.sl (.var 0) (.op .sub (.cst (.int 1)) (.cst (.int 0))) (.cst .non))) (.cst (.bl true)) [5])) (.cons (.ite (.op .eq (.ix (.var 0) (.cst (.int 0))) (.cst (.str "not"))) (.cons (.ret (.not (.ix (.var 4) (.cst (.int 0))))) .nil) .nil) (.cons (.ret (.ite (.op .eq (.ix (.var 0) (.cst (.int 0))) (.cst (.str "and"))) (.and (.ix (.var 4) (.cst (.int 0))) (.ix (.var 4) (.cst (.int 1)))) (.or (.ix (.var 4) (.cst (.int 0))) (.ix (.var 4) (.cst (.int 1)))))) .nil))))
/-! _law_cells -/
def b18 : Ss := (.cons (.ret (.bi .tuple (.cons (.lc (.ix (.var 0) (.var 2)) (.nm 2) (.ex (.var 1)) (.cst (.bl true)) [2]) .nil))) .nil)
/-! _law_sum -/
def b19 : Ss := (.cons (.asg (.tg (.nm 3)) (.ite (.op .gt (.var 2) (.cst (.int 0))) (.call 8 (.cons (.var 0) (.cons (.cst (.int 6)) .nil))) (.call 8 (.cons (.var 0) (.cons (.cst (.int 3)) .nil))))) (.cons (.ite (.and (.op .lt (.var 3) (.cst (.int 2))) (.op .gt (.var 1) (.cst (.int 0)))) (.cons (.ret (.tup (.cons (.cst (.str "col")) (.cons (.call 8 (.cons (.var 0) (.cons (.var 1) .nil))) .nil)))) .nil) .nil) (.cons (.ite (.op .lt (.var 3) (.cst (.int 3))) (.cons (.ret (.tup (.cons (.cst (.str "num")) (.cons (.op .sub (.call 8 (.cons (.var 0) (.cons (.cst (.int 4)) .nil))) (.cst (.int 1))) .nil)))) .nil) .nil) (.cons (.ite (.op .eq (.var 3) (.cst (.int 3))) (.cons (.ret (.tup (.cons (.cst (.str "neg")) (.cons (.call 19 (.cons (.var 0) (.cons (.var 1) (.cons (.op .sub (.var 2) (.cst (.int 1))) .nil)))) .nil)))) .nil) .nil) (.cons (.ret (.tup (.cons (.call 9 (.cons (.var 0) (.cons (.lst (.cons (.cst (.str "add")) (.cons (.cst (.str "mul")) .nil))) .nil))) (.cons (.call 19 (.cons (.var 0) (.cons (.var 1) (.cons (.op .sub (.var 2) (.cst (.int 1))) .nil)))) (.cons (.call 19 (.cons (.var 0) (.cons (.var 1) (.cons (.op .sub (.var 2) (.cst (.int 1))) .nil)))) .nil))))) .nil)))))
/-! _law_test -/
def b20 : Ss := (.cons (.asg (.tg (.nm 3)) (.ite (.op .gt (.var 2) (.cst (.int 0))) (.call 8 (.cons (.var 0) (.cons (.cst (.int 6)) .nil))) (.cst (.int 0)))) (.cons (.ite (.op .lt (.var 3) (.cst (.int 3))) (.cons (.ret (.tup (.cons (.call 9 (.cons (.var 0) (.cons (.lst (.cons (.cst (.str "same")) (.cons (.cst (.str "below")) .nil))) .nil))) (.cons (.call 19 (.cons (.var 0) (.cons (.var 1) (.cons (.cst (.int 1)) .nil)))) (.cons (.call 19 (.cons (.var 0) (.cons (.var 1) (.cons (.cst (.int 1)) .nil)))) .nil))))) .nil) .nil) (.cons (.ite (.op .eq (.var 3) (.cst (.int 3))) (.cons (.ret (.tup (.cons (.cst (.str "not")) (.cons (.call 20 (.cons (.var 0) (.cons (.var 1) (.cons (.op .sub (.var 2) (.cst (.int 1))) .nil)))) .nil)))) .nil) .nil) (.cons (.ret (.tup (.cons (.call 9 (.cons (.var 0) (.cons (.lst (.cons (.cst (.str "and")) (.cons (.cst (.str "or")) .nil))) .nil))) (.cons (.call 20 (.cons (.var 0) (.cons (.var 1) (.cons (.op .sub (.var 2) (.cst (.int 1))) .nil)))) (.cons (.call 20 (.cons (.var 0) (.cons (.var 1) (.cons (.op .sub (.var 2) (.cst (.int 1))) .nil)))) .nil))))) .nil))))
/-! _law_bond -/
def b21 : Ss := (.cons (.asg (.tg (.nm 1)) (.call 8 (.cons (.var 0) (.cons (.cst (.int 5)) .nil)))) (.cons (.ite (.op .eq (.var 1) (.cst (.int 0))) (.cons (.ret (.tup (.cons (.cst (.str "key")) (.cons (.cst (.str "a")) (.cons (.call 9 (.cons (.var 0) (.cons (.lst (.cons (.tup (.cons (.cst (.int 0)) .nil)) (.cons (.tup (.cons (.cst (.int 1)) .nil)) (.cons (.tup (.cons (.cst (.int 0)) (.cons (.cst (.int 1)) .nil))) (.cons (.tup .nil) .nil))))) .nil))) .nil))))) .nil) .nil) (.cons (.ite (.op .eq (.var 1) (.cst (.int 1))) (.cons (.ret (.tup (.cons (.cst (.str "most")) (.cons (.cst (.str "b")) (.cons (.call 9 (.cons (.var 0) (.cons (.lst (.cons (.tup (.cons (.cst (.int 0)) .nil)) (.cons (.tup (.cons (.cst (.int 2)) (.cons (.cst (.int 1)) .nil))) (.cons (.tup (.cons (.cst (.int 1)) .nil)) .nil)))) .nil))) (.cons (.op .add (.cst (.int 1)) (.call 8 (.cons (.var 0) (.cons (.cst (.int 3)) .nil)))) .nil)))))) .nil) .nil) (.cons (.ite (.op .eq (.var 1) (.cst (.int 2))) (.cons (.ret (.call 9 (.cons (.var 0) (.cons (.lst (.cons (.tup (.cons (.cst (.str "ref")) (.cons (.cst (.str "a")) (.cons (.tup (.cons (.cst (.int 0)) .nil)) (.cons (.cst (.str "b")) (.cons (.tup (.cons (.cst (.int 1)) .nil)) .nil)))))) (.cons (.tup (.cons (.cst (.str "ref")) (.cons (.cst (.str "b")) (.cons (.tup (.cons (.cst (.int 0)) (.cons (.cst (.int 2)) .nil))) (.cons (.cst (.str "a")) (.cons (.tup (.cons (.cst (.int 0)) (.cons (.cst (.int 1)) .nil))) .nil)))))) (.cons (.tup (.cons (.cst (.str "ref")) (.cons (.cst (.str "a")) (.cons (.tup (.cons (.cst (.int 1)) .nil)) (.cons (.cst (.str "a")) (.cons (.tup (.cons (.cst (.int 0)) .nil)) .nil)))))) .nil)))) .nil)))) .nil) .nil) (.cons (.ret (.ite (.op .eq (.var 1) (.cst (.int 3))) (.tup (.cons (.cst (.str "all")) (.cons (.cst (.str "a")) (.cons (.call 20 (.cons (.var 0) (.cons (.cst (.int 2)) (.cons (.cst (.int 1)) .nil)))) .nil)))) (.tup (.cons (.cst (.str "all")) (.cons (.cst (.str "b")) (.cons (.call 20 (.cons (.var 0) (.cons (.cst (.int 3)) (.cons (.cst (.int 1)) .nil)))) .nil)))))) .nil)))))
/-! _law_broken -/
def b22_l1 : E := (.cst (.int 1))
def b22_f2 : Ss := (.cons (.ite (.op .isin (.ix (.var 0) (.cst (.int 0))) (.tup (.cons (.cst (.str "key")) (.cons (.cst (.str "most")) .nil)))) (.cons (.asg (.tg (.nm 6)) (.call 18 (.cons (.var 4) (.cons (.ix (.var 0) (.cst (.int 2))) .nil)))) (.cons (.asg (.sub (.var 3) (.var 6)) (.op .add (.meth (.var 3) none (some .get) (.cons (.var 6) (.cons (.cst (.int 0)) .nil))) (.var 5))) (.cons (.ite (.op .gt (.ix (.var 3) (.var 6)) (.ite (.op .eq (.ix (.var 0) (.cst (.int 0))) (.cst (.str "key"))) (.cst (.int 1)) (.ix (.var 0) (.cst (.int 3))))) (.cons (.ret (.var 4)) .nil) .nil) .nil))) (.cons (.ite (.op .eq (.ix (.var 0) (.cst (.int 0))) (.cst (.str "ref"))) (.cons (.ite (.op .eq (.lc b22_l1 (.tp [(.nm 7), (.nm 8)]) (.ex (.ix (.var 1) (.ix (.var 0) (.cst (.int 3))))) (.op .eq (.call 18 (.cons (.var 7) (.cons (.ix (.var 0) (.cst (.int 4))) .nil))) (.call 18 (.cons (.var 4) (.cons (.ix (.var 0) (.cst (.int 2))) .nil)))) [7, 8]) (.lst .nil)) (.cons (.ret (.var 4)) .nil) .nil) .nil) (.cons (.ite (.not (.call 17 (.cons (.ix (.var 0) (.cst (.int 2))) (.cons (.var 4) .nil)))) (.cons (.ret (.var 4)) .nil) .nil) .nil)) .nil)) .nil)
def b22 : Ss := (.cons (.par [2, 3] (.cons (.ix (.var 1) (.ix (.var 0) (.cst (.int 1)))) (.cons (.dic true .nil) .nil))) (.cons (.for (.tp [(.nm 4), (.nm 5)]) (.ex (.var 2)) b22_f2) (.cons (.ret (.cst .non)) .nil)))
/-! _law_fault -/
def b23_f1 : Ss := (.cons (.asg (.tg (.nm 3)) (.call 22 (.cons (.ix (.var 0) (.var 2)) (.cons (.var 1) .nil)))) (.cons (.ite (.op .isnot (.var 3) (.cst .non)) (.cons (.ret (.tup (.cons (.var 2) (.cons (.var 3) .nil)))) .nil) .nil) .nil))
def b23 : Ss := (.cons (.for (.nm 2) (.rng (.cst (.int 0)) (.bi .len (.cons (.var 0) .nil))) b23_f1) (.cons (.ret (.cst .non)) .nil))
/-! law -/
def b24_l1 : E := (.tup (.cons (.var 9) (.cons (.ite (.and (.op .gt (.var 10) (.cst (.int 0))) (.op .gt (.call 8 (.cons (.var 1) (.cons (.cst (.int 3)) .nil))) (.cst (.int 0)))) (.var 10) (.cst (.int 1))) .nil)))
def b24_f2 : Ss := (.cons (.asg (.tg (.nm 8)) (.call 15 (.cons (.var 1) (.cons (.var 7) (.cons (.cst (.int 4)) .nil))))) (.cons (.asg (.sub (.var 5) (.var 6)) (.bi .tuple (.cons (.lc b24_l1 (.tp [(.nm 9), (.nm 10)]) (.ex (.var 8)) (.cst (.bl true)) [9, 10]) .nil))) .nil))
def t1 : S := (.asg (.tg (.nm 3)) (.bi .tuple (.cons (.lc (.call 21 (.cons (.var 1) .nil)) (.nm 4) (.rng (.cst (.int 0)) (.call 8 (.cons (.var 1) (.cons (.cst (.int 4)) .nil)))) (.cst (.bl true)) [4]) .nil)))
def t2 : S := (.asg (.tg (.nm 5)) (.dic false .nil))
def t3 : S := (.for (.tp [(.nm 6), (.nm 7)]) (.ex (.lst (.cons (.tup (.cons (.cst (.str "a")) (.cons (.cst (.int 2)) .nil))) (.cons (.tup (.cons (.cst (.str "b")) (.cons (.cst (.int 3)) .nil))) .nil)))) b24_f2)
def t4 : S := (.ite (.not (.call 11 (.cons (.call 6 (.cons (.var 3) (.cons (.var 5) .nil))) (.cons (.call 23 (.cons (.var 3) (.cons (.var 5) .nil))) .nil)))) (.cons (.ret (.cst (.bl false))) .nil) .nil)
def bT : Ss := (.cons t1 (.cons t2 (.cons t3 (.cons t4 .nil))))
end Ev.B50
namespace Ev
open PySem B50
structure K50 (P : List FD) : Prop where
  h0 : P[0]? = some ⟨2, 3, b0⟩
  h1 : P[1]? = some ⟨2, 4, b1⟩
  h2 : P[2]? = some ⟨2, 4, b2⟩
  h3 : P[3]? = some ⟨3, 7, b3⟩
  h4 : P[4]? = some ⟨4, 8, b4⟩
  h5 : P[5]? = some ⟨2, 6, b5⟩
  h6 : P[6]? = some ⟨2, 4, b6⟩
  h7 : P[7]? = some ⟨2, 8, bDraws⟩
  h8 : P[8]? = some ⟨2, 2, bNext⟩
  h9 : P[9]? = some ⟨2, 2, (bPick 8)⟩
  h10 : P[10]? = some ⟨2, 2, bSays⟩
  h11 : P[11]? = some ⟨2, 3, (bSame 11)⟩
  h12 : P[12]? = some ⟨2, 2, b12⟩
  h13 : P[13]? = some ⟨1, 2, b13⟩
  h14 : P[14]? = some ⟨3, 6, b14⟩
  h15 : P[15]? = some ⟨3, 7, b15⟩
  h16 : P[16]? = some ⟨2, 4, b16⟩
  h17 : P[17]? = some ⟨2, 6, b17⟩
  h18 : P[18]? = some ⟨2, 3, b18⟩
  h19 : P[19]? = some ⟨3, 4, b19⟩
  h20 : P[20]? = some ⟨3, 4, b20⟩
  h21 : P[21]? = some ⟨1, 2, b21⟩
  h22 : P[22]? = some ⟨2, 9, b22⟩
  h23 : P[23]? = some ⟨2, 4, b23⟩
  h24 : P[24]? = some ⟨1, 11, bLawG 7 600 8 bT⟩
end Ev
namespace Ev
open PySem B50
/-! ### k50: words, sums and tests over rows -/
inductive W50 where
  | col | num | neg | add | mul | same | below | no | an | ro | key | most | ref | all | ta | tb
  deriving DecidableEq
def W50.str : W50 → Str
  | .col => "col"
  | .num => "num"
  | .neg => "neg"
  | .add => "add"
  | .mul => "mul"
  | .same => "same"
  | .below => "below"
  | .no => "not"
  | .an => "and"
  | .ro => "or"
  | .key => "key"
  | .most => "most"
  | .ref => "ref"
  | .all => "all"
  | .ta => "a"
  | .tb => "b"
theorem W50.lay (w : W50) : PyData.canLay0 (.str w.str) = true := by cases w <;> (rw [PyData.canLay0]; decide +kernel)
theorem W50.stE (w u : W50) : decide (w.str = u.str) = decide (w = u) := by cases w <;> cases u <;> rfl
def W50.W (w : W50) : D := .str w.str
theorem W50.c_col : E.cst (.str "col") = E.cst (W50.W .col) := rfl
theorem W50.c_num : E.cst (.str "num") = E.cst (W50.W .num) := rfl
theorem W50.c_neg : E.cst (.str "neg") = E.cst (W50.W .neg) := rfl
theorem W50.c_add : E.cst (.str "add") = E.cst (W50.W .add) := rfl
theorem W50.c_mul : E.cst (.str "mul") = E.cst (W50.W .mul) := rfl
theorem W50.c_same : E.cst (.str "same") = E.cst (W50.W .same) := rfl
theorem W50.c_below : E.cst (.str "below") = E.cst (W50.W .below) := rfl
theorem W50.c_no : E.cst (.str "not") = E.cst (W50.W .no) := rfl
theorem W50.c_an : E.cst (.str "and") = E.cst (W50.W .an) := rfl
theorem W50.c_ro : E.cst (.str "or") = E.cst (W50.W .ro) := rfl
theorem W50.c_key : E.cst (.str "key") = E.cst (W50.W .key) := rfl
theorem W50.c_most : E.cst (.str "most") = E.cst (W50.W .most) := rfl
theorem W50.c_ref : E.cst (.str "ref") = E.cst (W50.W .ref) := rfl
theorem W50.c_all : E.cst (.str "all") = E.cst (W50.W .all) := rfl
theorem W50.c_ta : E.cst (.str "a") = E.cst (W50.W .ta) := rfl
theorem W50.c_tb : E.cst (.str "b") = E.cst (W50.W .tb) := rfl
theorem W50.inj {w u : W50} : (w.W = u.W) = (w = u) := by
  refine propext ⟨fun h => ?_, fun h => by rw [h]⟩
  have h := D.str.inj h
  have := W50.stE w u
  rw [decide_eq_true h] at this
  exact of_decide_eq_true this.symm
theorem W50.eq [Tab] {M : Mem} (w u : W50) : op2 .eq (.v w.W) (.v u.W) M = some (.v (.bl (decide (w = u))), M) := by
  unfold W50.W
  rw [op2_eq_str w.lay u.lay, W50.stE]
theorem W50.sh (k : Nat) (w : W50) : Sh k w.W := ⟨rfl, w.lay, by simp [W50.W, D.py, PyData.depth]⟩
theorem W50.flat (w : W50) : Flat w.W := .inr (.inr (.inr ⟨_, rfl, w.lay⟩))

theorem W50.in_two [Tab] {M : Mem} (w a b : W50) : op2 .isin (.v w.W) (.v (.tup [a.W, b.W])) M = some (.v (.bl (decide (w = a) || decide (w = b))), M) := by
  show (inA M (.v w.W) (.v (.tup [a.W, b.W]))).map _ = _
  have hs : ∀ d ∈ [a.W, b.W], Sh 1 d := fun d hd => by
    simp at hd
    rcases hd with rfl | rfl <;> exact W50.sh _ _
  have s1 := shaped_list hs (by omega)
  have s0 := (W50.sh 1 w).shaped (by omega)
  have hp := (shs hs).1
  have pn : pyOf M (.v w.W) = some w.W.py := rfl
  have e : inA M (.v w.W) (.v (.tup [a.W, b.W])) = some ((D.pys [a.W, b.W]).any fun z => PyData.eqv z w.W.py) := by
    unfold inA
    dsimp only
    rw [itemsOf_tup, pn]
    dsimp only
    rw [hp, s0, s1]
    simp only [Bool.and_self, if_true]
  have ee : ∀ a : W50, PyData.eqv a.W.py w.W.py = decide (w = a) := fun a => by
    have := W50.stE w a
    rw [← this]
    have h : PyData.eqv a.W.py w.W.py = decide (a.str = w.str) := by
      unfold W50.W
      rw [D.py, D.py, PyData.eqv]
      by_cases c : a.str = w.str <;> simp [c]
    rw [h]
    by_cases c : w.str = a.str
    · simp [c]
    · have c' : ¬ a.str = w.str := fun e => c e.symm
      simp [c, c']
  rw [e, D.pys, D.pys, D.pys, List.any_cons, List.any_cons, List.any_nil, ee, ee, Bool.or_false]
  rfl
inductive Lf5 where
  | col (c : Nat)
  | num (z : Int)
inductive Tm5 where
  | lf (l : Lf5)
  | neg (l : Lf5)
  | add (a b : Lf5)
  | mul (a b : Lf5)
inductive Cm5 where
  | same (a b : Tm5)
  | below (a b : Tm5)
inductive Ts5 where
  | cm (c : Cm5)
  | no (c : Cm5)
  | an (a b : Cm5)
  | ro (a b : Cm5)
def Lf5.D : Lf5 → Ev.D
  | .col c => .tup [W50.col.W, .int (c : Int)]
  | .num z => .tup [W50.num.W, .int z]
def Lf5.val (row : List Int) : Lf5 → Int
  | .col c => row.getD c 0
  | .num z => z
def Tm5.D : Tm5 → Ev.D
  | .lf l => l.D
  | .neg l => .tup [W50.neg.W, l.D]
  | .add a b => .tup [W50.add.W, a.D, b.D]
  | .mul a b => .tup [W50.mul.W, a.D, b.D]
def Tm5.val (x : List Int) : Tm5 → Int
  | .lf l => l.val x
  | .neg l => -l.val x
  | .add a b => a.val x + b.val x
  | .mul a b => a.val x * b.val x
def Cm5.D : Cm5 → Ev.D
  | .same a b => .tup [W50.same.W, a.D, b.D]
  | .below a b => .tup [W50.below.W, a.D, b.D]
def Cm5.val (x : List Int) : Cm5 → Bool
  | .same a b => decide (a.val x = b.val x)
  | .below a b => decide (a.val x < b.val x)
def Ts5.D : Ts5 → Ev.D
  | .cm c => c.D
  | .no c => .tup [W50.no.W, c.D]
  | .an a b => .tup [W50.an.W, a.D, b.D]
  | .ro a b => .tup [W50.ro.W, a.D, b.D]
def Ts5.val (x : List Int) : Ts5 → Bool
  | .cm c => c.val x
  | .no c => !c.val x
  | .an a b => a.val x && b.val x
  | .ro a b => a.val x || b.val x
def Lf5.ok (w : Nat) : Lf5 → Prop
  | .col c => c < w
  | .num z => -10 ≤ z ∧ z ≤ 10
def Tm5.ok (w : Nat) : Tm5 → Prop
  | .lf l => l.ok w
  | .neg l => l.ok w
  | .add a b => a.ok w ∧ b.ok w
  | .mul a b => a.ok w ∧ b.ok w
def Cm5.ok (w : Nat) : Cm5 → Prop
  | .same a b => a.ok w ∧ b.ok w
  | .below a b => a.ok w ∧ b.ok w
def Ts5.ok (w : Nat) : Ts5 → Prop
  | .cm c => c.ok w
  | .no c => c.ok w
  | .an a b => a.ok w ∧ b.ok w
  | .ro a b => a.ok w ∧ b.ok w
structure RowOk (w : Nat) (row : List Int) : Prop where
  l : row.length = w
  b : ∀ z ∈ row, -10 ≤ z ∧ z ≤ 10
theorem row_at [Tab] {row : List Int} {c : Nat} (h : c < row.length) : L2.atI (row.map D.int) (c : Int) = some (.int (row.getD c 0)) := by
  rw [aNn, List.getElem?_map, List.getElem?_eq_getElem h, List.getD_eq_getElem?_getD, List.getElem?_eq_getElem h]
  rfl
theorem Lf5.le {w : Nat} {l : Lf5} (h : l.ok w) {x : List Int} (hx : RowOk w x) : -10 ≤ l.val x ∧ l.val x ≤ 10 := by
  cases l with
  | col c =>
    have hc : c < x.length := by have := hx.l; have h : c < w := h; omega
    show -10 ≤ x.getD c 0 ∧ x.getD c 0 ≤ 10
    rw [List.getD_eq_getElem?_getD, List.getElem?_eq_getElem hc]
    exact hx.b _ (List.getElem_mem hc)
  | num z => exact h
theorem mul5 {a b : Int} (h : -10 ≤ a ∧ a ≤ 10) : mulOk a b = true := by
  unfold mulOk
  have h1 : decide (-(2 ^ 64) < a) = true := decide_eq_true (by omega)
  have h2 : decide (a < 2 ^ 64) = true := decide_eq_true (by omega)
  rw [h1, h2]
  rfl
theorem cut1 (x : D) (l : List D) : cutD (x :: l) (some 1) none = l := by
  unfold cutD
  simp [HT.sIx]
section
variable [Tab] {P : List FD} {i k n q w : Nat} {cf : Cf} {v : Env} {M : Mem} {row : List Int}
theorem lf5_sum (K : K50 P) {l : Lf5} (ok : l.ok w) (hx : RowOk w row) (hk : 1 ≤ k) : callAt P k 1 [l.D, tI0 row] M = some (.int (l.val row), M) := by
  obtain ⟨k, rfl⟩ : ∃ z, k = z + 1 := ⟨k - 1, by omega⟩
  rw [call_eq K.h1 rfl]
  cases l with
  | col c =>
    have hc := row_at (row := row) (c := c) (by have := hx.l; have h : c < w := ok; omega)
    simp [b1, W50.c_col, Lf5.D, tI0, W50.eq, fin_self, Lf5.val, hc]
  | num z => simp [b1, W50.c_col, W50.c_num, Lf5.D, W50.eq, fin_self, Lf5.val]
theorem tm5_sum (K : K50 P) {t : Tm5} (ok : t.ok w) (hx : RowOk w row) (hk : 2 ≤ k) : callAt P k 1 [t.D, tI0 row] M = some (.int (t.val row), M) := by
  obtain ⟨k, rfl⟩ : ∃ z, k = z + 1 := ⟨k - 1, by omega⟩
  cases t with
  | lf l => exact lf5_sum K ok hx (by omega)
  | neg l =>
    have e := lf5_sum (k := k) (M := M) K ok hx (by omega)
    rw [call_eq K.h1 rfl]
    simp [b1, W50.c_col, W50.c_num, W50.c_neg, Tm5.D, W50.eq, fin_self, Tm5.val, e]
  | add a b =>
    have e1 := lf5_sum (k := k) (M := M) K ok.1 hx (by omega)
    have e2 := lf5_sum (k := k) (M := M) K ok.2 hx (by omega)
    rw [call_eq K.h1 rfl]
    simp [b1, W50.c_col, W50.c_num, W50.c_neg, W50.c_add, Tm5.D, W50.eq, fin_self, Tm5.val, e1, e2]
  | mul a b =>
    have e1 := lf5_sum (k := k) (M := M) K ok.1 hx (by omega)
    have e2 := lf5_sum (k := k) (M := M) K ok.2 hx (by omega)
    have m : mulOk (a.val row) (b.val row) = true := mul5 (Lf5.le ok.1 hx)
    rw [call_eq K.h1 rfl]
    simp [b1, W50.c_col, W50.c_num, W50.c_neg, W50.c_add, Tm5.D, W50.eq, fin_self, Tm5.val, e1, e2, m]
theorem cm5_holds (K : K50 P) {t : Cm5} (ok : t.ok w) (hx : RowOk w row) (hk : 3 ≤ k) : callAt P k 2 [t.D, tI0 row] M = some (.bl (t.val row), M) := by
  obtain ⟨k, rfl⟩ : ∃ z, k = z + 1 := ⟨k - 1, by omega⟩
  rw [call_eq K.h2 rfl]
  cases t with
  | same a b =>
    have e1 := tm5_sum (k := k) (M := M) K ok.1 hx (by omega)
    have e2 := tm5_sum (k := k) (M := M) K ok.2 hx (by omega)
    simp [b2, W50.c_no, W50.c_same, Cm5.D, W50.eq, fin_self, Cm5.val, e1, e2]
  | below a b =>
    have e1 := tm5_sum (k := k) (M := M) K ok.1 hx (by omega)
    have e2 := tm5_sum (k := k) (M := M) K ok.2 hx (by omega)
    simp [b2, W50.c_no, W50.c_same, W50.c_below, Cm5.D, W50.eq, fin_self, Cm5.val, e1, e2]
theorem ts5_holds (K : K50 P) {t : Ts5} (ok : t.ok w) (hx : RowOk w row) (hk : 4 ≤ k) : callAt P k 2 [t.D, tI0 row] M = some (.bl (t.val row), M) := by
  obtain ⟨k, rfl⟩ : ∃ z, k = z + 1 := ⟨k - 1, by omega⟩
  cases t with
  | cm c => exact cm5_holds K ok hx (by omega)
  | no c =>
    have e := cm5_holds (k := k) (M := M) K ok hx (by omega)
    rw [call_eq K.h2 rfl]
    simp [b2, W50.c_no, Ts5.D, W50.eq, fin_self, Ts5.val, e]
  | an a b =>
    have e1 := cm5_holds (k := k) (M := M) K ok.1 hx (by omega)
    have e2 := cm5_holds (k := k) (M := M) K ok.2 hx (by omega)
    rw [call_eq K.h2 rfl]
    simp [b2, W50.c_no, W50.c_same, W50.c_below, W50.c_an, Ts5.D, W50.eq, e1, e2, Ts5.val]
    cases a.val row <;> simp [fin_self]
  | ro a b =>
    have e1 := cm5_holds (k := k) (M := M) K ok.1 hx (by omega)
    have e2 := cm5_holds (k := k) (M := M) K ok.2 hx (by omega)
    rw [call_eq K.h2 rfl]
    simp [b2, W50.c_no, W50.c_same, W50.c_below, W50.c_an, Ts5.D, W50.eq, e1, e2, Ts5.val]
    cases a.val row <;> simp [fin_self]
/-! .. the law's own -/
theorem lf5_val (K : K50 P) {l : Lf5} (ok : l.ok w) (hx : RowOk w row) (hk : 1 ≤ k) : callAt P k 16 [l.D, tI0 row] M = some (.int (l.val row), M) := by
  obtain ⟨k, rfl⟩ : ∃ z, k = z + 1 := ⟨k - 1, by omega⟩
  rw [call_eq K.h16 rfl]
  cases l with
  | col c =>
    have hc := row_at (row := row) (c := c) (by have := hx.l; have h : c < w := ok; omega)
    simp [b16, W50.c_col, Lf5.D, tI0, W50.eq, fin_self, Lf5.val, hc]
  | num z => simp [b16, W50.c_col, W50.c_num, Lf5.D, W50.eq, fin_self, Lf5.val]
theorem tm5_val (K : K50 P) {t : Tm5} (ok : t.ok w) (hx : RowOk w row) (hk : 2 ≤ k) : callAt P k 16 [t.D, tI0 row] M = some (.int (t.val row), M) := by
  obtain ⟨k, rfl⟩ : ∃ z, k = z + 1 := ⟨k - 1, by omega⟩
  have lc := fun (d0 o2 o3 : Option D) (ls : List Lf5) (h : ∀ l ∈ ls, l.ok w) => w_lcm (M := M) (body := lcBody (cfA P k) b16_l1 (.nm 3) (.cst (.bl true)) [3] [d0, some (tI0 row), o2, o3]) (g := none) Lf5.D (fun l => D.int (l.val row)) rfl (xs := ls) (fun l hl => by
    have e := lf5_val (k := k) (M := M) K (h l hl) hx (by omega)
    simp [b16_l1, e])
  cases t with
  | lf l => exact lf5_val K ok hx (by omega)
  | neg l =>
    rw [call_eq K.h16 rfl]
    simp [b16, W50.c_col, W50.c_num, W50.c_neg, Tm5.D, W50.eq, cut1]
    rw [show [l.D] = [l].map Lf5.D from rfl, lc _ _ _ [l] (fun x hx => by rw [List.mem_singleton.mp hx]; exact ok)]
    simp [Tm5.val, W50.eq, W50.c_neg, W50.c_add, W50.c_no, W50.c_an]
    exact fin_P rfl _
  | add a b =>
    rw [call_eq K.h16 rfl]
    simp [b16, W50.c_col, W50.c_num, W50.c_neg, W50.c_add, Tm5.D, W50.eq, cut1]
    rw [show [a.D, b.D] = [a, b].map Lf5.D from rfl, lc _ _ _ [a, b] (fun x hx => by simp at hx; rcases hx with rfl | rfl; exact ok.1; exact ok.2)]
    simp [Tm5.val, W50.eq, W50.c_neg, W50.c_add, W50.c_no, W50.c_an]
    exact fin_P rfl _
  | mul a b =>
    have m : mulOk (a.val row) (b.val row) = true := mul5 (Lf5.le ok.1 hx)
    rw [call_eq K.h16 rfl]
    simp [b16, W50.c_col, W50.c_num, W50.c_neg, W50.c_add, Tm5.D, W50.eq, cut1]
    rw [show [a.D, b.D] = [a, b].map Lf5.D from rfl, lc _ _ _ [a, b] (fun x hx => by simp at hx; rcases hx with rfl | rfl; exact ok.1; exact ok.2)]
    simp [Tm5.val, m, W50.eq, W50.c_neg, W50.c_add, W50.c_no, W50.c_an]
    exact fin_P rfl _
theorem cm5_lholds (K : K50 P) {t : Cm5} (ok : t.ok w) (hx : RowOk w row) (hk : 3 ≤ k) : callAt P k 17 [t.D, tI0 row] M = some (.bl (t.val row), M) := by
  obtain ⟨k, rfl⟩ : ∃ z, k = z + 1 := ⟨k - 1, by omega⟩
  have l2 : (2 : Nat) ≤ line := by decide
  rw [call_eq K.h17 rfl]
  cases t with
  | same a b =>
    have e1 := tm5_val (k := k) (M := M) K ok.1 hx (by omega)
    have e2 := tm5_val (k := k) (M := M) K ok.2 hx (by omega)
    simp [b17, W50.c_same, W50.c_below, W50.in_two, l2, Cm5.D, W50.eq, fin_self, Cm5.val, e1, e2]
  | below a b =>
    have e1 := tm5_val (k := k) (M := M) K ok.1 hx (by omega)
    have e2 := tm5_val (k := k) (M := M) K ok.2 hx (by omega)
    simp [b17, W50.c_same, W50.c_below, W50.in_two, l2, Cm5.D, W50.eq, fin_self, Cm5.val, e1, e2]
theorem ts5_lholds (K : K50 P) {t : Ts5} (ok : t.ok w) (hx : RowOk w row) (hk : 4 ≤ k) : callAt P k 17 [t.D, tI0 row] M = some (.bl (t.val row), M) := by
  obtain ⟨k, rfl⟩ : ∃ z, k = z + 1 := ⟨k - 1, by omega⟩
  have l2 : (2 : Nat) ≤ line := by decide
  have lc := fun (d0 o2 o3 o4 o5 : Option D) (ls : List Cm5) (h : ∀ l ∈ ls, l.ok w) => w_lcm (M := M) (body := lcBody (cfA P k) b17_l1 (.nm 5) (.cst (.bl true)) [5] [d0, some (tI0 row), o2, o3, o4, o5]) (g := none) Cm5.D (fun l => D.bl (l.val row)) rfl (xs := ls) (fun l hl => by
    have e := cm5_lholds (k := k) (M := M) K (h l hl) hx (by omega)
    simp [b17_l1, e])
  cases t with
  | cm c => exact cm5_lholds K ok hx (by omega)
  | no c =>
    rw [call_eq K.h17 rfl]
    simp [b17, W50.c_same, W50.c_below, W50.c_no, W50.in_two, l2, Ts5.D, W50.eq, cut1]
    rw [show [c.D] = [c].map Cm5.D from rfl, lc _ _ _ _ _ [c] (fun x hx => by rw [List.mem_singleton.mp hx]; exact ok)]
    simp [Ts5.val, W50.eq, W50.c_neg, W50.c_add, W50.c_no, W50.c_an]
    exact fin_P rfl _
  | an a b =>
    rw [call_eq K.h17 rfl]
    simp [b17, W50.c_same, W50.c_below, W50.c_no, W50.c_an, W50.in_two, l2, Ts5.D, W50.eq, cut1]
    rw [show [a.D, b.D] = [a, b].map Cm5.D from rfl, lc _ _ _ _ _ [a, b] (fun x hx => by simp at hx; rcases hx with rfl | rfl; exact ok.1; exact ok.2)]
    cases c : a.val row <;> (simp [Ts5.val, c, W50.eq, W50.c_neg, W50.c_add, W50.c_no, W50.c_an]; exact fin_P rfl _)
  | ro a b =>
    rw [call_eq K.h17 rfl]
    simp [b17, W50.c_same, W50.c_below, W50.c_no, W50.c_an, W50.in_two, l2, Ts5.D, W50.eq, cut1]
    rw [show [a.D, b.D] = [a, b].map Cm5.D from rfl, lc _ _ _ _ _ [a, b] (fun x hx => by simp at hx; rcases hx with rfl | rfl; exact ok.1; exact ok.2)]
    cases c : a.val row <;> (simp [Ts5.val, c, W50.eq, W50.c_neg, W50.c_add, W50.c_no, W50.c_an]; exact fin_P rfl _)
end
end Ev
namespace Ev
open PySem B50
/-! ### k50: the faults of bonds -/
theorem W50.key' (w : W50) : isKey false w.W = true := rfl
def pD (pl : List Nat) : D := .tup (pl.map fun n : Nat => D.int (n : Int))
def cells (row : List Int) (pl : List Nat) : List Int := pl.map fun i => row.getD i 0
def tabD (T : List Rc) : D := .tup (T.map rcD)
def oD : Option (List Int) → D
  | none => .non
  | some r => tI0 r
theorem oD_en (o : Option (List Int)) : oD o = en o := by cases o <;> rfl
theorem oD_pure (o : Option (List Int)) : (oD o).pure = true := by rw [oD_en]; exact En.pure o
def crowdL (pl : List Nat) (most : Int) : List Rc → List Rc → Option (List Int)
  | [], _ => none
  | p :: T, acc => if most < (getR acc (cells p.1 pl)).getD 0 + p.2 then some p.1 else crowdL pl most T (putR acc (cells p.1 pl) ((getR acc (cells p.1 pl)).getD 0 + p.2))
def lonC (U : List Rc) (pl ms : List Nat) (p : Rc) : Bool := !(U.any fun u => decide (cells u.1 ms = cells p.1 pl))
inductive Bd where
  | key (t : W50) (pl : List Nat)
  | most (t : W50) (pl : List Nat) (n : Int)
  | ref (t : W50) (pl : List Nat) (u : W50) (ms : List Nat)
  | all (t : W50) (test : Ts5)
def Bd.D : Bd → Ev.D
  | .key t pl => .tup [W50.key.W, t.W, pD pl]
  | .most t pl n => .tup [W50.most.W, t.W, pD pl, .int n]
  | .ref t pl u ms => .tup [W50.ref.W, t.W, pD pl, u.W, pD ms]
  | .all t test => .tup [W50.all.W, t.W, test.D]
def tbl (A B : List Rc) (t : W50) : List Rc := if t = .ta then A else B
def wid (t : W50) : Nat := if t = .ta then 2 else 3
def isT (t : W50) : Prop := t = .ta ∨ t = .tb
def plOk (w : Nat) (pl : List Nat) : Prop := ∀ i ∈ pl, i < w
def Bd.ok : Bd → Prop
  | .key t pl => isT t ∧ plOk (wid t) pl
  | .most t pl n => isT t ∧ plOk (wid t) pl
  | .ref t pl u ms => isT t ∧ plOk (wid t) pl ∧ isT u ∧ plOk (wid u) ms
  | .all t test => isT t ∧ test.ok (wid t)
def faultB (A B : List Rc) : Bd → Option (List Int)
  | .key t pl => crowdL pl 1 (tbl A B t) []
  | .most t pl n => crowdL pl n (tbl A B t) []
  | .ref t pl u ms => ((tbl A B t).find? (lonC (tbl A B u) pl ms)).map (·.1)
  | .all t test => ((tbl A B t).find? fun p => !test.val p.1).map (·.1)
structure TabOk (w : Nat) (T : List Rc) : Prop where
  l : T.length ≤ 1000
  r : ∀ p ∈ T, RowOk w p.1
theorem fs_if {α β : Type} (c : α → Bool) (h : α → β) : ∀ xs : List α, xs.findSome? (fun x => if c x = true then some (h x) else none) = (xs.find? c).map h
  | [] => rfl
  | x :: xs => by
    rw [List.findSome?_cons, List.find?_cons]
    cases e : c x
    · simp [e, fs_if c h xs]
    · simp [e]
theorem getD_int (o : Option Int) : (o.map D.int).getD (.int 0) = .int (o.getD 0) := by cases o <;> rfl
theorem tI0_pure (l : List Int) : (tI0 l).pure = true := ints_pures l
theorem rows_en (F : List Rc) : (F.map fun p => tI0 p.1) = (F.map (·.1)).map en := by rw [List.map_map]; rfl
theorem cell_sh (l : List Int) : Sh 1 (tI0 l) := en_sh (α := List Int) l
section
variable [Tab] {P : List FD} {i k n q w : Nat} {cf : Cf} {v : Env} {M : Mem} {row : List Int} {pl ms : List Nat} {T U A B : List Rc}
theorem at_gen {j : Nat} (h : P[j]? = some ⟨2, 3, b0⟩) (hp : plOk w pl) (hx : RowOk w row) (hk : 1 ≤ k) : callAt P k j [tI0 row, pD pl] M = some (tI0 (cells row pl), M) := by
  obtain ⟨k, rfl⟩ : ∃ z, k = z + 1 := ⟨k - 1, by omega⟩
  rw [call_eq h rfl]
  simp [b0, pD]
  rw [w_lcm (fun n : Nat => D.int (n : Int)) (fun i => D.int (row.getD i 0)) rfl (fun i hi => ?_)]
  · rw [show pl.map (fun i => D.int (row.getD i 0)) = (cells row pl).map D.int by unfold cells; rw [List.map_map]; rfl]
    simp [fin_self, tI0]
  · have hl : i < row.length := by have := hp i hi; have := hx.l; omega
    have hi' : row[i]? = some row[i] := List.getElem?_eq_getElem hl
    simp [tI0, hi']
theorem at_k (K : K50 P) (hp : plOk w pl) (hx : RowOk w row) (hk : 1 ≤ k) : callAt P k 0 [tI0 row, pD pl] M = some (tI0 (cells row pl), M) := at_gen K.h0 hp hx hk
theorem cells_k (K : K50 P) (hp : plOk w pl) (hx : RowOk w row) (hk : 1 ≤ k) : callAt P k 18 [tI0 row, pD pl] M = some (tI0 (cells row pl), M) := at_gen K.h18 hp hx hk
theorem crowd_k (K : K50 P) {most : Int} (hp : plOk w pl) (hT : TabOk w T) (hk : 3 ≤ k) : callAt P k 3 [pD pl, .int most, tabD T] M = some (oD (crowdL pl most T []), M) := by
  obtain ⟨k, rfl⟩ : ∃ z, k = z + 1 := ⟨k - 1, by omega⟩
  have hline : line = 16000000 := rfl
  have hTl := hT.l
  rw [call_eq K.h3 rfl]
  refine of_WP (WP.hide fun Q0 hQ0 => ?_)
  simp [b3, tabD]
  try simp only [bnd_bnd]
  refine WP.bnd (w_forR rcD (fun dn v M' => ∃ acc o4 o5 o6, v = [some (pD pl), some (.int most), some (.tup (T.map rcD)), some (.ref M.length), o4, o5, o6] ∧ M' = M ++ [MO.dic true (acc.map rcE)] ∧ acc.length ≤ dn.length ∧ ∀ r, T = dn ++ r → crowdL pl most T [] = crowdL pl most r acc)
    (fun d v M' => ∃ X row, M' = M ++ X ∧ crowdL pl most T [] = some row ∧ d = tI0 row) (fun _ _ _ _ => rfl) T [] ?_ ?_) ?_
  · rintro dn p r v M' hd ⟨acc, o4, o5, o6, rfl, rfl, hal, hc⟩
    rw [List.nil_append] at hd
    have hp1 := hT.r p (by rw [hd]; simp)
    have hdl : dn.length ≤ 1000 := by rw [hd] at hTl; simp at hTl; omega
    have e1 := at_k (k := k) (M := M ++ [MO.dic true (acc.map rcE)]) K hp hp1 (by omega)
    have hl : acc.length < line := by omega
    have hc1 := hc (p :: r) hd
    rw [crowdL] at hc1
    have hl2 := putR_len acc (cells p.1 pl) ((getR acc (cells p.1 pl)).getD 0 + p.2)
    have hg := getR_put acc (cells p.1 pl) ((getR acc (cells p.1 pl)).getD 0 + p.2)
    refine WP.hide fun Q hQ => ?_
    simp [b3_f1, rcD, e1, key_tI0, dget_R, getD_int, hl, dput_R, hg]
    by_cases c : most < (getR acc (cells p.1 pl)).getD 0 + p.2
    · rw [if_pos c] at hc1
      simp [c]
      exact WP.fin hQ (.inr ⟨_, rfl, _, p.1, rfl, hc1, rfl⟩)
    · rw [if_neg c] at hc1
      simp [c]
      refine WP.fin hQ (.inl ⟨.inl rfl, _, _, _, _, rfl, rfl, by simp; omega, fun r' hr' => ?_⟩)
      have : r' = r := by
        have e := hd.symm.trans hr'
        simp at e
        exact e.symm
      rw [this]
      exact hc1
  · exact ⟨[], _, _, _, rfl, rfl, Nat.le_refl _, fun r h => by rw [h]; rfl⟩
  · rintro ⟨fl, v⟩ M' (⟨e, acc, o4, o5, o6, rfl, rfl, _, hc⟩ | ⟨d, e, X, row, rfl, hc, rfl⟩)
    · have e : fl = _ := e
      subst e
      have hc := hc [] (by simp)
      simp
      refine WP.fin hQ0 ?_
      rw [hc]
      exact fin_of rfl rfl _
    · have e : fl = _ := e
      subst e
      simp
      refine WP.fin hQ0 ?_
      rw [hc]
      exact fin_of rfl (tI0_pure row) _
theorem lon_known (U : List Rc) (ms : List Nat) (key : List Int) : (dget (dmerge [] (U.map fun u => (tI0 (cells u.1 ms), D.bl true))) (tI0 key)).isSome = U.any fun u => decide (cells u.1 ms = key) := by
  rw [dget_merge_some]
  have e : (dget [] (tI0 key)).isSome = false := rfl
  rw [e, Bool.false_or, List.any_map]
  congr 1
  funext u
  simp [tI0_inj]
theorem lonely_k (K : K50 P) {w' : Nat} (hp : plOk w pl) (hm : plOk w' ms) (hT : TabOk w T) (hU : TabOk w' U) (hk : 3 ≤ k) : callAt P k 4 [pD pl, pD ms, tabD T, tabD U] M = some (oD ((T.find? (lonC U pl ms)).map (·.1)), M) := by
  obtain ⟨k, rfl⟩ : ∃ z, k = z + 1 := ⟨k - 1, by omega⟩
  have l2 : (2 : Nat) ≤ line := by decide
  have hbd := bi_dictT_l (M := M) (fun u : Rc => cells u.1 ms) (fun _ => D.bl true) U
  have hkn := fun key => lon_known U ms key
  rw [call_eq K.h4 rfl]
  simp [b4, tabD]
  rw [w_lcm rcD (fun u => D.tup [tI0 (cells u.1 ms), .bl true]) rfl (fun u hu => by
    have e := at_k (k := k) (M := M) K hm (hU.r u hu) (by omega)
    simp [b4_l1, rcD, e, l2])]
  simp [hbd]
  generalize dmerge [] (U.map fun u => (tI0 (cells u.1 ms), D.bl true)) = kn at hkn ⊢
  rw [w_lcf rcD (fun p => tI0 p.1) (lonC U pl ms) rfl (fun p hp' => by
    have e := at_k (k := k) (M := M ++ [MO.dic true kn]) K hp (hT.r p hp') (by omega)
    have e2 := notin_dic (M := M ++ [MO.dic true kn]) (at_here [] _) (key_tI0 (cells p.1 pl))
    rw [hkn] at e2
    cases c : lonC U pl ms p
    · have c' : (U.any fun u => decide (cells u.1 ms = cells p.1 pl)) = true := by unfold lonC at c; simpa using c
      rw [c'] at e2
      simp [rcD, e, e2]
    · have c' : (U.any fun u => decide (cells u.1 ms = cells p.1 pl)) = false := by unfold lonC at c; simpa using c
      rw [c'] at e2
      simp [rcD, e, e2])]
  rw [← List.head?_filter]
  generalize T.filter (lonC U pl ms) = F
  have ne := ne_enl (α := List Int) (M := M ++ MO.dic true kn :: [MO.lst (F.map fun p => tI0 p.1)]) (q := M.length + 1) (l := F.map (·.1)) (by rw [← rows_en]; simp) (by decide)
  cases F with
  | nil =>
    simp at ne
    simp [ne]
    exact fin_P rfl _
  | cons p F =>
    simp at ne
    simp [ne]
    exact fin_P (tI0_pure p.1) _
theorem tables_ix {a b : D} {t : W50} (ht : isT t) : dget [(W50.ta.W, a), (W50.tb.W, b)] t.W = some (if t = .ta then a else b) := by
  rcases ht with rfl | rfl <;> simp [dget, W50.inj]
theorem tbl_D (t : W50) : (if t = .ta then tabD A else tabD B) = tabD (tbl A B t) := by unfold tbl; split <;> rfl
theorem tbl_ok (hA : TabOk 2 A) (hB : TabOk 3 B) (t : W50) : TabOk (wid t) (tbl A B t) := by
  unfold wid tbl
  split
  · exact hA
  · exact hB
theorem fault_k (K : K50 P) {b : Bd} (ok : b.ok) (hA : TabOk 2 A) (hB : TabOk 3 B) (hq : M[q]? = some (.dic false [(W50.ta.W, tabD A), (W50.tb.W, tabD B)])) (hk : 6 ≤ k) :
    callAt P k 5 [b.D, .ref q] M = some (oD (faultB A B b), M) := by
  obtain ⟨k, rfl⟩ : ∃ z, k = z + 1 := ⟨k - 1, by omega⟩
  have hTk := fun t => tbl_ok hA hB t
  rw [call_eq K.h5 rfl]
  cases b with
  | key t pl =>
    have e := crowd_k (k := k) (M := M) (most := 1) K ok.2 (hTk t) (by omega)
    simp [b5, Bd.D, hq, W50.key', tables_ix ok.1, tbl_D, W50.c_key, W50.eq, e, fin_self, faultB]
  | most t pl n =>
    have e := crowd_k (k := k) (M := M) (most := n) K ok.2 (hTk t) (by omega)
    simp [b5, Bd.D, hq, W50.key', tables_ix ok.1, tbl_D, W50.c_key, W50.c_most, W50.eq, e, fin_self, faultB]
  | ref t pl u ms =>
    have e := lonely_k (k := k) (M := M) K ok.2.1 ok.2.2.2 (hTk t) (hTk u) (by omega)
    simp [b5, Bd.D, hq, W50.key', tables_ix ok.1, tables_ix ok.2.2.1, tbl_D, W50.c_key, W50.c_most, W50.c_ref, W50.eq, e, fin_self, faultB]
  | all t test =>
    simp [b5, Bd.D, hq, W50.key', tables_ix ok.1, tbl_D, W50.c_key, W50.c_most, W50.c_ref, W50.eq]
    have hT := hTk t
    generalize hTT : tbl A B t = T at hT
    simp [tabD]
    rw [w_lcf rcD (fun p => tI0 p.1) (fun p => !test.val p.1) rfl (fun p hp => by
      have e := ts5_holds (k := k) (M := M) K ok.2 (hT.r p hp) (by omega)
      cases c : test.val p.1 <;> (rw [c] at e; simp [rcD, e]))]
    have hf : faultB A B (.all t test) = ((T.filter fun p => !test.val p.1).head?).map (·.1) := by rw [List.head?_filter, ← hTT]; rfl
    rw [hf]
    generalize T.filter (fun p => !test.val p.1) = F
    have ne := ne_enl (α := List Int) (M := M ++ [MO.lst (F.map fun p => tI0 p.1)]) (q := M.length) (l := F.map (·.1)) (by rw [← rows_en]; simp) (by decide)
    cases F with
    | nil =>
      simp at ne
      simp [ne]
      exact fin_P rfl _
    | cons p F =>
      simp at ne
      simp [ne]
      exact fin_P (tI0_pure p.1) _
end
end Ev
namespace Ev
open PySem B50
/-! ### k50: the law's own search -/
section
variable [Tab] {P : List FD} {i k n q w : Nat} {cf : Cf} {v : Env} {M : Mem} {row : List Int} {pl ms : List Nat} {T U A B : List Rc}
theorem ints1_sh (l : List Rc) : ∀ d ∈ l.map (fun _ => D.int 1), Sh 1 d := fun d hd => by
  obtain ⟨_, _, rfl⟩ := List.mem_map.mp hd
  exact Sh.int _ _
/-- the walk of counted keys -/
theorem broken_c (K : K50 P) {t : W50} {b : Bd} {most : Int} (hb : b = .key t pl ∧ most = 1 ∨ b = .most t pl most) (hp : plOk w pl) (hT : TabOk w T) (hk : 3 ≤ k) {rq d2 : Option D} {q3 : Nat} (h3 : q3 = M.length) :
    WP (forL (forBody (cfA P k) (.tp [.nm 4, .nm 5]) b22_f2) none (T.map rcD) [some b.D, rq, d2, some (.ref q3), none, none, none, none, none] (M ++ [MO.dic true []])) fun r M' =>
      (r.1 = .nx ∧ (∃ X, M' = M ++ X) ∧ crowdL pl most T [] = none) ∨ ∃ row, r.1 = .rt (tI0 row) ∧ (∃ X, M' = M ++ X) ∧ crowdL pl most T [] = some row := by
  subst h3
  have hline : line = 16000000 := rfl
  have l2 : (2 : Nat) ≤ line := by decide
  have hTl := hT.l
  refine WP.mono (w_forR rcD (fun dn v M' => ∃ acc o4 o5 o6, v = [some b.D, rq, d2, some (.ref M.length), o4, o5, o6, none, none] ∧ M' = M ++ [MO.dic true (acc.map rcE)] ∧ acc.length ≤ dn.length ∧ ∀ r, T = dn ++ r → crowdL pl most T [] = crowdL pl most r acc)
    (fun d v M' => ∃ X row, M' = M ++ X ∧ crowdL pl most T [] = some row ∧ d = tI0 row) (fun _ _ _ _ => rfl) T [] ?_ ?_) ?_
  · rintro dn p r v M' hd ⟨acc, o4, o5, o6, rfl, rfl, hal, hc⟩
    rw [List.nil_append] at hd
    have hp1 := hT.r p (by rw [hd]; simp)
    have hdl : dn.length ≤ 1000 := by rw [hd] at hTl; simp at hTl; omega
    have e1 := cells_k (k := k) (M := M ++ [MO.dic true (acc.map rcE)]) K hp hp1 (by omega)
    have hl : acc.length < line := by omega
    have hc1 := hc (p :: r) hd
    rw [crowdL] at hc1
    have hl2 := putR_len acc (cells p.1 pl) ((getR acc (cells p.1 pl)).getD 0 + p.2)
    have hg := getR_put acc (cells p.1 pl) ((getR acc (cells p.1 pl)).getD 0 + p.2)
    refine WP.hide fun Q hQ => ?_
    have key : WP (forBody (cfA P k) (.tp [.nm 4, .nm 5]) b22_f2 (rcD p) [some b.D, rq, d2, some (.ref M.length), o4, o5, o6, none, none] (M ++ [MO.dic true (acc.map rcE)])) fun r M' => M' = M ++ [MO.dic true ((putR acc (cells p.1 pl) ((getR acc (cells p.1 pl)).getD 0 + p.2)).map rcE)] ∧ r = (if most < (getR acc (cells p.1 pl)).getD 0 + p.2 then (.rt (tI0 p.1), [some b.D, rq, d2, some (.ref M.length), some (tI0 p.1), some (.int p.2), some (tI0 (cells p.1 pl)), none, none]) else (.nx, [some b.D, rq, d2, some (.ref M.length), some (tI0 p.1), some (.int p.2), some (tI0 (cells p.1 pl)), none, none])) := by
      refine WP.hide fun Q hQ => ?_
      rcases hb with ⟨rfl, rfl⟩ | rfl
      · simp [b22_f2, rcD, Bd.D, W50.c_key, W50.c_most, W50.in_two, W50.eq, l2, e1, key_tI0, dget_R, getD_int, hl, dput_R, hg]
        by_cases c : 1 < (getR acc (cells p.1 pl)).getD 0 + p.2
        · simp [c]
          exact WP.fin hQ ⟨rfl, by simp [c, Bd.D]⟩
        · simp [c]
          exact WP.fin hQ ⟨rfl, by simp [c, Bd.D]⟩
      · simp [b22_f2, rcD, Bd.D, W50.c_key, W50.c_most, W50.in_two, W50.eq, l2, e1, key_tI0, dget_R, getD_int, hl, dput_R, hg]
        by_cases c : most < (getR acc (cells p.1 pl)).getD 0 + p.2
        · simp [c]
          exact WP.fin hQ ⟨rfl, by simp [c, Bd.D]⟩
        · simp [c]
          exact WP.fin hQ ⟨rfl, by simp [c, Bd.D]⟩
    obtain ⟨r', M', e, rfl, er⟩ := key
    rw [e]
    by_cases c : most < (getR acc (cells p.1 pl)).getD 0 + p.2
    · rw [if_pos c] at hc1 er
      subst er
      exact WP.fin hQ (.inr ⟨_, rfl, _, p.1, rfl, hc1, rfl⟩)
    · rw [if_neg c] at hc1 er
      subst er
      refine WP.fin hQ (.inl ⟨.inl rfl, _, _, _, _, rfl, rfl, by simp; omega, fun r' hr' => ?_⟩)
      have : r' = r := by
        have e := hd.symm.trans hr'
        simp at e
        exact e.symm
      rw [this]
      exact hc1
  · exact ⟨[], _, _, _, rfl, rfl, Nat.le_refl _, fun r h => by rw [h]; rfl⟩
  · rintro ⟨fl, v⟩ M' (⟨e, acc, o4, o5, o6, rfl, rfl, _, hc⟩ | ⟨d, e, X, row, rfl, hc, rfl⟩)
    · exact .inl ⟨e, ⟨_, rfl⟩, hc [] (by simp)⟩
    · exact .inr ⟨row, e, ⟨X, rfl⟩, hc⟩
theorem broken_k (K : K50 P) {b : Bd} (ok : b.ok) (hA : TabOk 2 A) (hB : TabOk 3 B) (hq : M[q]? = some (.dic false [(W50.ta.W, tabD A), (W50.tb.W, tabD B)])) (hk : 6 ≤ k) :
    callAt P k 22 [b.D, .ref q] M = some (oD (faultB A B b), M) := by
  obtain ⟨k, rfl⟩ : ∃ z, k = z + 1 := ⟨k - 1, by omega⟩
  have hTk := fun t => tbl_ok hA hB t
  have l2 : (2 : Nat) ≤ line := by decide
  have hql := (List.getElem?_eq_some_iff.mp hq).1
  have hq' : (M ++ [MO.dic true []])[q]? = some (.dic false [(W50.ta.W, tabD A), (W50.tb.W, tabD B)]) := by rw [app_at _ hql]; exact hq
  rw [call_eq K.h22 rfl]
  refine of_WP (WP.hide fun Q0 hQ0 => ?_)
  -- a search by a test
  have find : ∀ (t : W50) (c : Rc → Bool), isT t → (∀ p ∈ tbl A B t, ∀ v, (∃ o4 o5 o6, v = [some b.D, some (.ref q), some (tabD (tbl A B t)), some (.ref M.length), o4, o5, o6, none, none]) → WP (forBody (cfA P k) (.tp [.nm 4, .nm 5]) b22_f2 (rcD p) v (M ++ [MO.dic true []])) fun r M' => M' = M ++ [MO.dic true []] ∧ (match (if c p = true then some (tI0 p.1) else none : Option D) with
      | none => (r.1 = .nx ∨ r.1 = .ct) ∧ ∃ o4 o5 o6, r.2 = [some b.D, some (.ref q), some (tabD (tbl A B t)), some (.ref M.length), o4, o5, o6, none, none]
      | some d => r.1 = .rt d)) → faultB A B b = ((tbl A B t).find? c).map (·.1) →
      WP (bnd (bnd (forL (forBody (cfA P k) (.tp [.nm 4, .nm 5]) b22_f2) none ((tbl A B t).map rcD) [some b.D, some (.ref q), some (tabD (tbl A B t)), some (.ref M.length), none, none, none, none, none] (M ++ [MO.dic true []])) (kSs (cfA P k) (.cons (.ret (.cst .non)) .nil))) (kFin M)) Q0 := fun t c ht hs hf => by
    refine WP.bnd (R := fun r M' => M' = M ++ [MO.dic true []] ∧ ∃ v, r = (.rt (oD (faultB A B b)), v)) (WP.bnd (w_find rcD (fun p => if c p = true then some (tI0 p.1) else none) (fun v => ∃ o4 o5 o6, v = [some b.D, some (.ref q), some (tabD (tbl A B t)), some (.ref M.length), o4, o5, o6, none, none]) rfl (tbl A B t) hs ⟨_, _, _, rfl⟩) ?_) ?_
    · rintro ⟨fl, v⟩ M' ⟨rfl, h⟩
      rw [fs_if] at h
      rw [hf]
      cases e : (tbl A B t).find? c with
      | none =>
        rw [e] at h
        obtain ⟨h1, o4, o5, o6, h2⟩ := h
        have h1 : fl = _ := h1
        have h2 : v = _ := h2
        subst h1; subst h2
        simp
        exact WP.intro ⟨rfl, _, rfl⟩
      | some p =>
        rw [e] at h
        have h : fl = _ := h
        subst h
        simp
        exact WP.intro ⟨rfl, _, rfl⟩
    · rintro ⟨fl, v⟩ M' ⟨rfl, v', e⟩
      cases e
      simp
      refine WP.fin hQ0 ?_
      exact fin_of rfl (oD_pure _) _
  -- a walk of counted keys
  have cnt : ∀ (t : W50) (pl : List Nat) (most : Int), (b = .key t pl ∧ most = 1 ∨ b = .most t pl most) → plOk (wid t) pl → faultB A B b = crowdL pl most (tbl A B t) [] →
      WP (bnd (bnd (forL (forBody (cfA P k) (.tp [.nm 4, .nm 5]) b22_f2) none ((tbl A B t).map rcD) [some b.D, some (.ref q), some (tabD (tbl A B t)), some (.ref M.length), none, none, none, none, none] (M ++ [MO.dic true []])) (kSs (cfA P k) (.cons (.ret (.cst .non)) .nil))) (kFin M)) Q0 := fun t pl most hb hp hf => by
    simp only [bnd_bnd]
    refine WP.bnd (broken_c (k := k) K hb hp (hTk t) (by omega) rfl) ?_
    rintro ⟨fl, v⟩ M' (⟨e, ⟨X, rfl⟩, hc⟩ | ⟨row, e, ⟨X, rfl⟩, hc⟩)
    · have e : fl = _ := e
      subst e
      simp
      refine WP.fin hQ0 ?_
      rw [hf, hc]
      exact fin_of rfl rfl _
    · have e : fl = _ := e
      subst e
      simp
      refine WP.fin hQ0 ?_
      rw [hf, hc]
      exact fin_of rfl (tI0_pure row) _
  cases hbb : b with
  | key t pl =>
    subst hbb
    have h := cnt t pl 1 (.inl ⟨rfl, rfl⟩) ok.2 rfl
    simp [Bd.D, tabD] at h
    simp [b22, Bd.D, hq, W50.key', tables_ix ok.1, tbl_D]
    simp [tabD]
    exact h
  | most t pl n =>
    subst hbb
    have h := cnt t pl n (.inr rfl) ok.2 rfl
    simp [Bd.D, tabD] at h
    simp [b22, Bd.D, hq, W50.key', tables_ix ok.1, tbl_D]
    simp [tabD]
    exact h
  | ref t pl u ms =>
    subst hbb
    have h := find t (lonC (tbl A B u) pl ms) ok.1 (fun p hp v hv => by
      obtain ⟨o4, o5, o6, rfl⟩ := hv
      have hpr := (hTk t).r p hp
      have e1 := cells_k (k := k) (M := M ++ [MO.dic true []]) K ok.2.1 hpr (by omega)
      refine WP.hide fun Q hQ => ?_
      simp [b22_f2, rcD, Bd.D, W50.c_key, W50.c_most, W50.c_ref, W50.in_two, W50.eq, l2, hq', W50.key', tables_ix ok.2.2.1, tbl_D]
      have hU := hTk u
      simp [tabD]
      rw [w_lcf rcD (fun _ => D.int 1) (fun x => decide (cells x.1 ms = cells p.1 pl)) rfl (fun x hx => by
        have e2 := cells_k (k := k) (M := M ++ [MO.dic true []]) K ok.2.2.2 (hU.r x hx) (by omega)
        have e3 : op2 .eq (.v (tI0 (cells x.1 ms))) (.v (tI0 (cells p.1 pl))) (M ++ [MO.dic true []]) = some (.v (.bl (decide (cells x.1 ms = cells p.1 pl))), M ++ [MO.dic true []]) := eq_en (α := List Int) (by decide) (cells x.1 ms) (cells p.1 pl)
        by_cases c : cells x.1 ms = cells p.1 pl
        · simp [c] at e3
          simp [rcD, b22_l1, e1, e2, c, e3]
        · simp [c] at e3
          simp [rcD, b22_l1, e1, e2, c, e3])]
      have e4 := eq_empl (M := M ++ [MO.dic true []]) (ints1_sh ((tbl A B u).filter fun x => decide (cells x.1 ms = cells p.1 pl))) (by decide)
      have he : ((tbl A B u).filter fun x => decide (cells x.1 ms = cells p.1 pl)).isEmpty = lonC (tbl A B u) pl ms p := by
        unfold lonC
        rw [Bool.eq_iff_iff, List.isEmpty_iff, List.filter_eq_nil_iff]
        simp
      rw [List.isEmpty_map, he] at e4
      cases c : lonC (tbl A B u) pl ms p
      · rw [c] at e4
        simp [e4]
        exact WP.fin hQ ⟨rfl, by simp [c, Bd.D, tabD]⟩
      · rw [c] at e4
        simp [e4]
        exact WP.fin hQ ⟨rfl, by simp [c, Bd.D, tabD]⟩) rfl
    simp [Bd.D, tabD] at h
    simp [b22, Bd.D, hq, W50.key', tables_ix ok.1, tbl_D]
    simp [tabD]
    exact h
  | all t test =>
    subst hbb
    have h := find t (fun p => !test.val p.1) ok.1 (fun p hp v hv => by
      obtain ⟨o4, o5, o6, rfl⟩ := hv
      have hpr := (hTk t).r p hp
      have e1 := ts5_lholds (k := k) (M := M ++ [MO.dic true []]) K ok.2 hpr (by omega)
      refine WP.hide fun Q hQ => ?_
      cases c : test.val p.1
      · rw [c] at e1
        simp [b22_f2, rcD, Bd.D, W50.c_key, W50.c_most, W50.c_ref, W50.in_two, W50.eq, l2, e1]
        exact WP.fin hQ ⟨rfl, by simp [c]⟩
      · rw [c] at e1
        simp [b22_f2, rcD, Bd.D, W50.c_key, W50.c_most, W50.c_ref, W50.in_two, W50.eq, l2, e1]
        exact WP.fin hQ ⟨rfl, by simp [c, Bd.D]⟩) rfl
    simp [Bd.D, tabD] at h
    simp [b22, Bd.D, hq, W50.key', tables_ix ok.1, tbl_D]
    simp [tabD]
    exact h
end
end Ev
namespace Ev
open PySem B50
/-! ### k50: the first fault -/
def firstN (A B : List Rc) (bs : List Bd) : Option (Nat × List Int) := (List.range bs.length).findSome? fun j => ((bs[j]?).bind (faultB A B)).map fun r => (j, r)
theorem fs_map {α β γ : Type} (g : α → Option β) (h : β → γ) : ∀ xs : List α, xs.findSome? (fun x => (g x).map h) = (xs.findSome? g).map h
  | [] => rfl
  | x :: xs => by
    rw [List.findSome?_cons, List.findSome?_cons]
    cases e : g x
    · exact fs_map g h xs
    · rfl
theorem crowd_mem {pl : List Nat} {most : Int} {r : List Int} : ∀ {T acc : List Rc}, crowdL pl most T acc = some r → ∃ p ∈ T, p.1 = r
  | [], _, h => nomatch h
  | p :: T, acc, h => by
    unfold crowdL at h
    split at h
    · cases h; exact ⟨p, List.mem_cons_self, rfl⟩
    · obtain ⟨q, hq, e⟩ := crowd_mem h
      exact ⟨q, List.mem_cons_of_mem _ hq, e⟩
theorem fault_mem {A B : List Rc} {b : Bd} {r : List Int} (h : faultB A B b = some r) : ∃ t, ∃ p ∈ tbl A B t, p.1 = r := by
  cases b with
  | key t pl => exact ⟨t, crowd_mem h⟩
  | most t pl n => exact ⟨t, crowd_mem h⟩
  | ref t pl u ms =>
    obtain ⟨p, h1, h2⟩ := Option.map_eq_some_iff.mp h
    exact ⟨t, p, List.mem_of_find?_eq_some h1, h2⟩
  | all t test =>
    obtain ⟨p, h1, h2⟩ := Option.map_eq_some_iff.mp h
    exact ⟨t, p, List.mem_of_find?_eq_some h1, h2⟩
section
variable [Tab] {P : List FD} {i k n q w : Nat} {cf : Cf} {v : Env} {M : Mem} {A B : List Rc} {bs : List Bd} {ds : List Int}
theorem isnot_oD (o : Option (List Int)) : op2 .isnot (.v (oD o)) (.v .non) M = some (.v (.bl o.isSome), M) := by
  cases o <;> rfl
theorem first_gen {jf jc : Nat} (h : P[jf]? = some ⟨2, 4, (.cons (.for (.nm 2) (.rng (.cst (.int 0)) (.bi .len (.cons (.var 0) .nil))) (.cons (.asg (.tg (.nm 3)) (.call jc (.cons (.ix (.var 0) (.var 2)) (.cons (.var 1) .nil)))) (.cons (.ite (.op .isnot (.var 3) (.cst .non)) (.cons (.ret (.tup (.cons (.var 2) (.cons (.var 3) .nil)))) .nil) .nil) .nil))) (.cons (.ret (.cst .non)) .nil))⟩)
    (hf : ∀ b ∈ bs, callAt P k jc [b.D, .ref q] M = some (oD (faultB A B b), M)) (hl : bs.length ≤ 1000) : callAt P (k + 1) jf [.tup (bs.map Bd.D), .ref q] M = some (en (firstN A B bs), M) := by
  have l2 : (2 : Nat) ≤ line := by decide
  have ok : rOk 0 (bs.length : Int) := rOk_of (by omega)
  rw [call_eq h rfl]
  refine of_WP (WP.hide fun Q0 hQ0 => ?_)
  simp [ok]
  try simp only [bnd_bnd]
  rw [rangeZ]
  refine WP.bnd (w_find (fun j : Nat => D.int (j : Int)) (fun j => (((bs[j]?).bind (faultB A B)).map fun r => (j, r)).map fun x : Nat × List Int => D.tup [.int (x.1 : Int), tI0 x.2]) (fun v => ∃ o2 o3, v = [some (.tup (bs.map Bd.D)), some (.ref q), o2, o3]) rfl (List.range bs.length) (fun j hj v hv => ?_) ⟨_, _, rfl⟩) ?_
  · obtain ⟨o2, o3, rfl⟩ := hv
    have hj := List.mem_range.mp hj
    have eb : bs[j]? = some bs[j] := List.getElem?_eq_getElem hj
    have e := hf _ (List.getElem_mem hj)
    refine WP.hide fun Q hQ => ?_
    rw [eb] at hQ
    simp only [Option.bind_some] at hQ
    have e2 := isnot_oD (M := M) (faultB A B bs[j])
    cases c : faultB A B bs[j] with
    | none =>
      rw [c] at hQ e e2
      simp [eb, e, e2]
      exact WP.fin hQ ⟨rfl, .inl rfl, _, _, rfl⟩
    | some r =>
      rw [c] at hQ e e2
      simp [eb, e, e2, l2]
      exact WP.fin hQ ⟨rfl, rfl⟩
  · rintro ⟨fl, v⟩ M' ⟨rfl, h⟩
    rw [fs_map] at h
    have hF : ((List.range bs.length).findSome? fun j => ((bs[j]?).bind (faultB A B)).map fun r => (j, r)) = firstN A B bs := rfl
    rw [hF] at h
    cases e : firstN A B bs with
    | none =>
      rw [e] at h
      obtain ⟨h1, o2, o3, h2⟩ := h
      have h1 : fl = _ := h1
      subst h1
      simp [fin_self]
      exact WP.fin hQ0 (by rw [e]; rfl)
    | some x =>
      rw [e] at h
      have h : fl = _ := h
      subst h
      simp [fin_self]
      exact WP.fin hQ0 (by rw [e]; rfl)
theorem first_k (K : K50 P) (hb : ∀ b ∈ bs, b.ok) (hl : bs.length ≤ 1000) (hA : TabOk 2 A) (hB : TabOk 3 B) (hq : M[q]? = some (.dic false [(W50.ta.W, tabD A), (W50.tb.W, tabD B)])) (hk : 8 ≤ k) :
    callAt P k 6 [.tup (bs.map Bd.D), .ref q] M = some (en (firstN A B bs), M) := by
  obtain ⟨k, rfl⟩ : ∃ z, k = z + 1 := ⟨k - 1, by omega⟩
  exact first_gen K.h6 (fun b h => fault_k K (hb b h) hA hB hq (by omega)) hl
theorem lfirst_k (K : K50 P) (hb : ∀ b ∈ bs, b.ok) (hl : bs.length ≤ 1000) (hA : TabOk 2 A) (hB : TabOk 3 B) (hq : M[q]? = some (.dic false [(W50.ta.W, tabD A), (W50.tb.W, tabD B)])) (hk : 8 ≤ k) :
    callAt P k 23 [.tup (bs.map Bd.D), .ref q] M = some (en (firstN A B bs), M) := by
  obtain ⟨k, rfl⟩ : ∃ z, k = z + 1 := ⟨k - 1, by omega⟩
  exact first_gen K.h23 (fun b h => broken_k K (hb b h) hA hB hq (by omega)) hl
theorem first_small (hA : TabOk 2 A) (hB : TabOk 3 B) : En.small (firstN A B bs) := by
  cases e : firstN A B bs with
  | none => exact trivial
  | some x =>
    obtain ⟨j, _, hj⟩ := List.exists_of_findSome?_eq_some e
    obtain ⟨r, h1, h2⟩ := Option.map_eq_some_iff.mp hj
    subst h2
    obtain ⟨b, _, h3⟩ := Option.bind_eq_some_iff.mp h1
    obtain ⟨t, p, hp, h4⟩ := fault_mem h3
    have := ((tbl_ok hA hB t).r p hp).l
    refine ⟨trivial, ?_, fun _ _ => trivial⟩
    rw [← h4, this]
    unfold wid
    split <;> decide
/-! .. what is drawn -/
theorem lf5_pure (l : Lf5) : l.D.pure = true := by cases l <;> rfl
theorem tm5_pure (l : Tm5) : l.D.pure = true := by
  cases l with
  | lf l => exact lf5_pure l
  | neg l => simp [Tm5.D, D.pure, D.pures, W50.W, lf5_pure]
  | add a b => simp [Tm5.D, D.pure, D.pures, W50.W, lf5_pure]
  | mul a b => simp [Tm5.D, D.pure, D.pures, W50.W, lf5_pure]
theorem cm5_pure (l : Cm5) : l.D.pure = true := by cases l <;> simp [Cm5.D, D.pure, D.pures, W50.W, tm5_pure]
theorem ts5_pure (l : Ts5) : l.D.pure = true := by
  cases l with
  | cm l => exact cm5_pure l
  | no l => simp [Ts5.D, D.pure, D.pures, W50.W, cm5_pure]
  | an a b => simp [Ts5.D, D.pure, D.pures, W50.W, cm5_pure]
  | ro a b => simp [Ts5.D, D.pure, D.pures, W50.W, cm5_pure]
theorem pD_pure (pl : List Nat) : (pD pl).pure = true := En.pure pl
theorem bd_pure (b : Bd) : b.D.pure = true := by cases b <;> simp [Bd.D, D.pure, D.pures, W50.W, pD_pure, ts5_pure]
theorem sum0_5 (K : K50 P) (hd : ds.length ≤ line) (hw : WM ds M) (h0 : 0 < w) (hk : 4 ≤ k) : ∃ (l : Lf5) (M' : Mem), callAt P k 19 [.ref 2, .int (w : Int), .int 0] M = some (l.D, M') ∧ l.ok w ∧ Gm ds M M' := by
  obtain ⟨k, rfl⟩ : ∃ z, k = z + 1 := ⟨k - 1, by omega⟩
  have l2 : (2 : Nat) ≤ line := by decide
  obtain ⟨c, M1, e1, b1, g1, _⟩ := next_W (k := k) K.h8 hd hw (m := 3) (by decide) (by omega)
  rw [call_eq K.h19 rfl]
  by_cases c2 : c < 2
  · obtain ⟨c', M2, e2, b2, g2, _⟩ := next_W (k := k) K.h8 hd g1.w (m := (w : Int)) (by omega) (by omega)
    have hc : (c : Int) < 2 := by omega
    obtain ⟨X, f, g⟩ := fin_W (d := (Lf5.col c').D) rfl hw (g1.trans g2)
    refine ⟨.col c', X, ?_, show c' < w by omega, g⟩
    simp [b19, e1, hc, h0, e2, l2, W50.c_col]
    exact f
  · obtain ⟨c', M2, e2, b2, g2, _⟩ := next_W (k := k) K.h8 hd g1.w (m := 4) (by decide) (by omega)
    have hc : ¬ (c : Int) < 2 := by omega
    have hc3 : (c : Int) < 3 := by omega
    obtain ⟨X, f, g⟩ := fin_W (d := (Lf5.num ((c' : Int) - 1)).D) rfl hw (g1.trans g2)
    refine ⟨.num ((c' : Int) - 1), X, ?_, ⟨by omega, by omega⟩, g⟩
    simp [b19, e1, hc, hc3, e2, l2, W50.c_num]
    exact f
theorem sum1_5 (K : K50 P) (hd : ds.length ≤ line) (hw : WM ds M) (h0 : 0 < w) (hk : 6 ≤ k) : ∃ (l : Tm5) (M' : Mem), callAt P k 19 [.ref 2, .int (w : Int), .int 1] M = some (l.D, M') ∧ l.ok w ∧ Gm ds M M' := by
  obtain ⟨k, rfl⟩ : ∃ z, k = z + 1 := ⟨k - 1, by omega⟩
  have l2 : (2 : Nat) ≤ line := by decide
  have l3 : (3 : Nat) ≤ line := by decide
  obtain ⟨c, M1, e1, b1, g1, _⟩ := next_W (k := k) K.h8 hd hw (m := 6) (by decide) (by omega)
  rw [call_eq K.h19 rfl]
  by_cases c2 : c < 2
  · obtain ⟨c', M2, e2, b2, g2, _⟩ := next_W (k := k) K.h8 hd g1.w (m := (w : Int)) (by omega) (by omega)
    have hc : (c : Int) < 2 := by omega
    obtain ⟨X, f, g⟩ := fin_W (d := (Tm5.lf (.col c')).D) rfl hw (g1.trans g2)
    refine ⟨.lf (.col c'), X, ?_, show c' < w by omega, g⟩
    simp [b19, e1, hc, h0, e2, l2, W50.c_col]
    exact f
  · have hc : ¬ (c : Int) < 2 := by omega
    by_cases c3 : c < 3
    · obtain ⟨c', M2, e2, b2, g2, _⟩ := next_W (k := k) K.h8 hd g1.w (m := 4) (by decide) (by omega)
      have hc3 : (c : Int) < 3 := by omega
      obtain ⟨X, f, g⟩ := fin_W (d := (Tm5.lf (.num ((c' : Int) - 1))).D) rfl hw (g1.trans g2)
      refine ⟨.lf (.num ((c' : Int) - 1)), X, ?_, ⟨by omega, by omega⟩, g⟩
      simp [b19, e1, hc, hc3, e2, l2, W50.c_num]
      exact f
    · have hc3 : ¬ (c : Int) < 3 := by omega
      by_cases c4 : c = 3
      · obtain ⟨l, M2, e2, b2, g2⟩ := sum0_5 (k := k) K hd g1.w h0 (by omega)
        have hc4 : ((c : Int) = 3) = True := eq_true (by omega)
        obtain ⟨X, f, g⟩ := fin_W (d := (Tm5.neg l).D) (tm5_pure _) hw (g1.trans g2)
        refine ⟨.neg l, X, ?_, b2, g⟩
        simp [b19, e1, hc, hc3, hc4, e2, l2, W50.c_neg]
        exact f
      · have hc4 : ((c : Int) = 3) = False := eq_false (by omega)
        obtain ⟨x, M2, e2, hx, g2⟩ := pick_W (k := k) K.h9 K.h8 hd g1.w (xs := [W50.add.W, W50.mul.W]) (by simp) (by simp [W50.W, D.pure]) (by omega)
        obtain ⟨la, M3, e3, b3, g3⟩ := sum0_5 (k := k) K hd g2.w h0 (by omega)
        obtain ⟨lb, M4, e4, b4, g4⟩ := sum0_5 (k := k) K hd g3.w h0 (by omega)
        have gg := g1.trans (g2.trans (g3.trans g4))
        simp at hx
        rcases hx with rfl | rfl
        · obtain ⟨X, f, g⟩ := fin_W (d := (Tm5.add la lb).D) (tm5_pure _) hw gg
          refine ⟨.add la lb, X, ?_, ⟨b3, b4⟩, g⟩
          simp [b19, e1, hc, hc3, hc4, e3, e4, l2, l3, W50.c_add, W50.c_mul, e2]
          exact f
        · obtain ⟨X, f, g⟩ := fin_W (d := (Tm5.mul la lb).D) (tm5_pure _) hw gg
          refine ⟨.mul la lb, X, ?_, ⟨b3, b4⟩, g⟩
          simp [b19, e1, hc, hc3, hc4, e3, e4, l2, l3, W50.c_add, W50.c_mul, e2]
          exact f
theorem test0_5 (K : K50 P) (hd : ds.length ≤ line) (hw : WM ds M) (h0 : 0 < w) (hk : 8 ≤ k) : ∃ (l : Cm5) (M' : Mem), callAt P k 20 [.ref 2, .int (w : Int), .int 0] M = some (l.D, M') ∧ l.ok w ∧ Gm ds M M' := by
  obtain ⟨k, rfl⟩ : ∃ z, k = z + 1 := ⟨k - 1, by omega⟩
  have l2 : (2 : Nat) ≤ line := by decide
  have l3 : (3 : Nat) ≤ line := by decide
  rw [call_eq K.h20 rfl]
  obtain ⟨x, M2, e2, hx, g2⟩ := pick_W (k := k) K.h9 K.h8 hd hw (xs := [W50.same.W, W50.below.W]) (by simp) (by simp [W50.W, D.pure]) (by omega)
  obtain ⟨la, M3, e3, b3, g3⟩ := sum1_5 (k := k) K hd g2.w h0 (by omega)
  obtain ⟨lb, M4, e4, b4, g4⟩ := sum1_5 (k := k) K hd g3.w h0 (by omega)
  have gg := g2.trans (g3.trans g4)
  simp at hx
  rcases hx with rfl | rfl
  · obtain ⟨X, f, g⟩ := fin_W (d := (Cm5.same la lb).D) (cm5_pure _) hw gg
    refine ⟨.same la lb, X, ?_, ⟨b3, b4⟩, g⟩
    simp [b20, e3, e4, l2, l3, W50.c_same, W50.c_below, e2]
    exact f
  · obtain ⟨X, f, g⟩ := fin_W (d := (Cm5.below la lb).D) (cm5_pure _) hw gg
    refine ⟨.below la lb, X, ?_, ⟨b3, b4⟩, g⟩
    simp [b20, e3, e4, l2, l3, W50.c_same, W50.c_below, e2]
    exact f
theorem test1_5 (K : K50 P) (hd : ds.length ≤ line) (hw : WM ds M) (h0 : 0 < w) (hk : 10 ≤ k) : ∃ (l : Ts5) (M' : Mem), callAt P k 20 [.ref 2, .int (w : Int), .int 1] M = some (l.D, M') ∧ l.ok w ∧ Gm ds M M' := by
  obtain ⟨k, rfl⟩ : ∃ z, k = z + 1 := ⟨k - 1, by omega⟩
  have l2 : (2 : Nat) ≤ line := by decide
  have l3 : (3 : Nat) ≤ line := by decide
  rw [call_eq K.h20 rfl]
  obtain ⟨c, M1, e1, b1, g1, _⟩ := next_W (k := k) K.h8 hd hw (m := 6) (by decide) (by omega)
  by_cases c3 : c < 3
  · have hc3 : (c : Int) < 3 := by omega
    obtain ⟨x, M2, e2, hx, g2⟩ := pick_W (k := k) K.h9 K.h8 hd g1.w (xs := [W50.same.W, W50.below.W]) (by simp) (by simp [W50.W, D.pure]) (by omega)
    obtain ⟨la, M3, e3, b3, g3⟩ := sum1_5 (k := k) K hd g2.w h0 (by omega)
    obtain ⟨lb, M4, e4, b4, g4⟩ := sum1_5 (k := k) K hd g3.w h0 (by omega)
    have gg := g1.trans (g2.trans (g3.trans g4))
    simp at hx
    rcases hx with rfl | rfl
    · obtain ⟨X, f, g⟩ := fin_W (d := (Cm5.same la lb).D) (cm5_pure _) hw gg
      refine ⟨.cm (.same la lb), X, ?_, ⟨b3, b4⟩, g⟩
      simp [b20, e1, hc3, e3, e4, l2, l3, W50.c_same, W50.c_below, e2]
      exact f
    · obtain ⟨X, f, g⟩ := fin_W (d := (Cm5.below la lb).D) (cm5_pure _) hw gg
      refine ⟨.cm (.below la lb), X, ?_, ⟨b3, b4⟩, g⟩
      simp [b20, e1, hc3, e3, e4, l2, l3, W50.c_same, W50.c_below, e2]
      exact f
  · have hc3 : ¬ (c : Int) < 3 := by omega
    by_cases c4 : c = 3
    · obtain ⟨l, M2, e2, b2, g2⟩ := test0_5 (k := k) K hd g1.w h0 (by omega)
      have hc4 : ((c : Int) = 3) = True := eq_true (by omega)
      obtain ⟨X, f, g⟩ := fin_W (d := (Ts5.no l).D) (ts5_pure _) hw (g1.trans g2)
      refine ⟨.no l, X, ?_, b2, g⟩
      simp [b20, e1, hc3, hc4, e2, l2, W50.c_no]
      exact f
    · have hc4 : ((c : Int) = 3) = False := eq_false (by omega)
      obtain ⟨x, M2, e2, hx, g2⟩ := pick_W (k := k) K.h9 K.h8 hd g1.w (xs := [W50.an.W, W50.ro.W]) (by simp) (by simp [W50.W, D.pure]) (by omega)
      obtain ⟨la, M3, e3, b3, g3⟩ := test0_5 (k := k) K hd g2.w h0 (by omega)
      obtain ⟨lb, M4, e4, b4, g4⟩ := test0_5 (k := k) K hd g3.w h0 (by omega)
      have gg := g1.trans (g2.trans (g3.trans g4))
      simp at hx
      rcases hx with rfl | rfl
      · obtain ⟨X, f, g⟩ := fin_W (d := (Ts5.an la lb).D) (ts5_pure _) hw gg
        refine ⟨.an la lb, X, ?_, ⟨b3, b4⟩, g⟩
        simp [b20, e1, hc3, hc4, e3, e4, l2, l3, W50.c_an, W50.c_ro, e2]
        exact f
      · obtain ⟨X, f, g⟩ := fin_W (d := (Ts5.ro la lb).D) (ts5_pure _) hw gg
        refine ⟨.ro la lb, X, ?_, ⟨b3, b4⟩, g⟩
        simp [b20, e1, hc3, hc4, e3, e4, l2, l3, W50.c_an, W50.c_ro, e2]
        exact f
end
end Ev
namespace Ev.B22
open PySem
/-! even_windows -/
def b0_w1c : E := (.op .gt (.var 6) (.op .sub (.var 1) (.var 3)))
def b0_w1 : Ss := (.cons (.expr (.meth (.var 7) none (some .append) (.cons (.tup (.cons (.var 6) (.cons (.op .add (.var 6) (.var 3)) .nil))) .nil))) (.cons (.aug 6 .sub (.var 4)) .nil))
def b0 : Ss := (.cons (.asg (.tg (.tp [(.nm 2), (.nm 3), (.nm 4), (.nm 5)])) (.var 0)) (.cons (.asg (.tg (.nm 6)) (.op .add (.var 5) (.op .mul (.op .fdiv (.op .sub (.var 1) (.var 5)) (.var 4)) (.var 4)))) (.cons (.asg (.tg (.nm 7)) (.lst .nil)) (.cons (.while b0_w1c b0_w1) (.cons (.ret (.bi .tuple (.cons (.rev (.var 7)) .nil))) .nil)))))
/-! rest_windows -/
def b1_f1 : Ss := (.cons (.ite (.and (.op .ne (.var 2) (.lst .nil)) (.op .lt (.var 3) (.ix (.ix (.var 2) (.neg (.cst (.int 1)))) (.cst (.int 1))))) (.cons (.asg (.sub (.var 2) (.neg (.cst (.int 1)))) (.tup (.cons (.ix (.ix (.var 2) (.neg (.cst (.int 1)))) (.cst (.int 0))) (.cons (.op .add (.var 3) (.var 0)) .nil)))) .nil) (.cons (.expr (.meth (.var 2) none (some .append) (.cons (.tup (.cons (.var 3) (.cons (.op .add (.var 3) (.var 0)) .nil))) .nil))) .nil)) .nil)
def b1 : Ss := (.cons (.asg (.tg (.nm 2)) (.lst .nil)) (.cons (.for (.nm 3) (.ex (.bi .sorted (.cons (.var 1) .nil))) b1_f1) (.cons (.ret (.bi .tuple (.cons (.var 2) .nil))) .nil)))
/-! folded -/
def b2 : Ss := (.cons (.ite (.op .eq (.var 0) (.cst (.str "count"))) (.cons (.ret (.bi .len (.cons (.var 1) .nil))) .nil) .nil) (.cons (.ite (.op .eq (.var 0) (.cst (.str "sum"))) (.cons (.ret (.bi .sum (.cons (.var 1) .nil))) .nil) .nil) (.cons (.ret (.ite (.op .eq (.var 0) (.cst (.str "least"))) (.bi .min (.cons (.var 1) .nil)) (.bi .max (.cons (.var 1) .nil)))) .nil)))
/-! numbers_within -/
def b3_l1 : E := (.ix (.var 5) (.neg (.cst (.int 1))))
def b3 : Ss := (.cons (.ret (.lc b3_l1 (.tp [(.nm 4), (.nm 5)]) (.ex (.var 0)) (.and (.chain .le .lt (.var 1) (.var 4) (.var 2)) (.or (.op .is (.var 3) (.cst .non)) (.op .eq (.ix (.var 5) (.cst (.int 0))) (.var 3)))) [4, 5])) .nil)
/-! even_answers -/
def b4_f1 : Ss := (.cons (.expr (.meth (.var 3) none (some .extend) (.cons (.call 0 (.cons (.var 0) (.cons (.var 4) .nil))) .nil))) .nil)
def b4_f2 : Ss := (.cons (.expr (.meth (.var 6) none (some .append) (.cons (.tup (.cons (.var 7) (.cons (.var 8) (.cons (.cst (.int 0)) (.cons (.call 2 (.cons (.var 1) (.cons (.call 3 (.cons (.var 2) (.cons (.var 7) (.cons (.var 8) (.cons (.cst .non) .nil))))) .nil))) .nil))))) .nil))) .nil)
def b4 : Ss := (.cons (.asg (.tg (.nm 3)) (.lst .nil)) (.cons (.for (.tp [(.nm 4), (.nm 5)]) (.ex (.var 2)) b4_f1) (.cons (.asg (.tg (.nm 6)) (.lst .nil)) (.cons (.for (.tp [(.nm 7), (.nm 8)]) (.ex (.bi (.set true) (.cons (.var 3) .nil))) b4_f2) (.cons (.ret (.bi .tuple (.cons (.var 6) .nil))) .nil)))))
/-! rest_answers -/
def b5_f1 : Ss := (.cons (.expr (.meth (.var 3) none (some .append) (.cons (.tup (.cons (.var 7) (.cons (.var 8) (.cons (.var 4) (.cons (.call 2 (.cons (.var 1) (.cons (.call 3 (.cons (.var 2) (.cons (.var 7) (.cons (.var 8) (.cons (.var 4) .nil))))) .nil))) .nil))))) .nil))) .nil)
def b5_f2 : Ss := (.cons (.for (.tp [(.nm 7), (.nm 8)]) (.ex (.call 1 (.cons (.var 0) (.cons (.lc (.var 9) (.tp [(.nm 9), (.nm 6)]) (.ex (.var 2)) (.op .eq (.ix (.var 6) (.cst (.int 0))) (.var 4)) [9, 6]) .nil)))) b5_f1) .nil)
def b5 : Ss := (.cons (.asg (.tg (.nm 3)) (.lst .nil)) (.cons (.for (.nm 4) (.ex (.bi (.set true) (.cons (.lc (.ix (.var 6) (.cst (.int 0))) (.tp [(.nm 5), (.nm 6)]) (.ex (.var 2)) (.cst (.bl true)) [5, 6]) .nil))) b5_f2) (.cons (.ret (.bi .tuple (.cons (.bi .sorted (.cons (.var 3) .nil)) .nil))) .nil)))
/-! windowed -/
def b6 : Ss := (.cons (.ret (.ite (.op .eq (.ix (.var 0) (.cst (.int 0))) (.cst (.str "even"))) (.call 4 (.cons (.var 0) (.cons (.var 1) (.cons (.var 2) .nil)))) (.call 5 (.cons (.ix (.var 0) (.cst (.int 1))) (.cons (.var 1) (.cons (.var 2) .nil)))))) .nil)
/-! _law_kind -/
def b11 : Ss := (.cons (.ite (.op .eq (.call 8 (.cons (.var 0) (.cons (.cst (.int 3)) .nil))) (.cst (.int 0))) (.cons (.ret (.tup (.cons (.cst (.str "rests")) (.cons (.op .add (.cst (.int 1)) (.call 8 (.cons (.var 0) (.cons (.cst (.int 5)) .nil)))) .nil)))) .nil) .nil) (.cons (.ret (.tup (.cons (.cst (.str "even")) (.cons (.op .add (.cst (.int 1)) (.call 8 (.cons (.var 0) (.cons (.cst (.int 6)) .nil)))) (.cons (.op .add (.cst (.int 1)) (.call 8 (.cons (.var 0) (.cons (.cst (.int 6)) .nil)))) (.cons (.op .sub (.call 8 (.cons (.var 0) (.cons (.cst (.int 5)) .nil))) (.cst (.int 2))) .nil)))))) .nil))
/-! _law_even -/
def b12_l1 : E := (.tup (.cons (.var 6) (.cons (.op .add (.var 6) (.var 3)) .nil)))
def b12 : Ss := (.cons (.asg (.tg (.tp [(.nm 2), (.nm 3), (.nm 4), (.nm 5)])) (.var 0)) (.cons (.ret (.lc b12_l1 (.nm 6) (.rng (.op .add (.op .sub (.var 1) (.var 3)) (.cst (.int 1))) (.op .add (.var 1) (.cst (.int 1)))) (.op .eq (.op .mod (.bi .int (.cons (.op .sub (.var 6) (.var 5)) .nil)) (.var 4)) (.cst (.int 0))) [6])) .nil))
/-! _law_rests -/
def b13_f1 : Ss := (.cons (.ite (.and (.op .ne (.var 2) (.lst .nil)) (.op .lt (.var 3) (.ix (.ix (.var 2) (.op .sub (.bi .len (.cons (.var 2) .nil)) (.cst (.int 1)))) (.cst (.int 1))))) (.cons (.asg (.tg (.nm 2)) (.op .add (.sl (.var 2) (.cst .non) (.op .sub (.neg (.cst (.int 1))) (.cst (.int 0)))) (.lst (.cons (.tup (.cons (.ix (.ix (.var 2) (.op .sub (.bi .len (.cons (.var 2) .nil)) (.cst (.int 1)))) (.cst (.int 0))) (.cons (.op .add (.var 3) (.var 0)) .nil))) .nil)))) .nil) (.cons (.asg (.tg (.nm 2)) (.op .add (.var 2) (.lst (.cons (.tup (.cons (.var 3) (.cons (.op .add (.var 3) (.var 0)) .nil))) .nil)))) .nil)) .nil)
def b13 : Ss := (.cons (.asg (.tg (.nm 2)) (.lst .nil)) (.cons (.for (.nm 3) (.ex (.bi .sorted (.cons (.var 1) .nil))) b13_f1) (.cons (.ret (.var 2)) .nil)))
/-! _law_fold -/
def b14 : Ss := (.cons (.ret (.ix (.dic false (.cons (.cst (.str "count")) (.cons (.bi .len (.cons (.var 1) .nil)) (.cons (.cst (.str "sum")) (.cons (.bi .sum (.cons (.var 1) .nil)) (.cons (.cst (.str "least")) (.cons (.bi .min (.cons (.var 1) .nil)) (.cons (.cst (.str "most")) (.cons (.bi .max (.cons (.var 1) .nil)) .nil))))))))) (.var 0))) .nil)
/-! _law_spans -/
def b15_l1 : E := (.op .add (.var 6) (.tup (.cons (.ix (.var 4) (.cst (.int 0))) .nil)))
def b15_f2 : Ss := (.cons (.ite (.op .eq (.ix (.var 0) (.cst (.int 0))) (.cst (.str "even"))) (.cons (.asg (.tg (.nm 5)) (.lc (.op .add (.var 6) (.tup (.cons (.cst (.int 0)) .nil))) (.nm 6) (.ex (.call 12 (.cons (.var 0) (.cons (.var 3) .nil)))) (.cst (.bl true)) [6])) .nil) (.cons (.asg (.tg (.nm 5)) (.lc b15_l1 (.nm 6) (.ex (.call 13 (.cons (.ix (.var 0) (.cst (.int 1))) (.cons (.lc (.var 7) (.tp [(.nm 7), (.nm 8)]) (.ex (.var 1)) (.op .eq (.ix (.var 8) (.cst (.int 0))) (.ix (.var 4) (.cst (.int 0)))) [7, 8]) .nil)))) (.cst (.bl true)) [6])) .nil)) (.cons (.asg (.tg (.nm 2)) (.op .add (.var 2) (.lc (.var 6) (.nm 6) (.ex (.var 5)) (.op .notin (.var 6) (.var 2)) [6]))) .nil))
def b15 : Ss := (.cons (.asg (.tg (.nm 2)) (.lst .nil)) (.cons (.for (.tp [(.nm 3), (.nm 4)]) (.ex (.var 1)) b15_f2) (.cons (.ret (.bi .sorted (.cons (.var 2) .nil))) .nil)))
/-! _law_value -/
def b16_l1 : E := (.ix (.var 5) (.op .sub (.bi .len (.cons (.var 5) .nil)) (.cst (.int 1))))
def b16 : Ss := (.cons (.ret (.call 14 (.cons (.var 1) (.cons (.lc b16_l1 (.tp [(.nm 4), (.nm 5)]) (.ex (.var 2)) (.and (.chain .le .lt (.ix (.var 3) (.cst (.int 0))) (.var 4) (.ix (.var 3) (.cst (.int 1)))) (.or (.op .eq (.ix (.var 0) (.cst (.int 0))) (.cst (.str "even"))) (.op .eq (.ix (.var 5) (.cst (.int 0))) (.ix (.var 3) (.cst (.int 2)))))) [4, 5]) .nil)))) .nil)
/-! _law_windowed -/
def b17_l1 : E := (.op .add (.var 3) (.tup (.cons (.call 16 (.cons (.var 0) (.cons (.var 1) (.cons (.var 2) (.cons (.var 3) .nil))))) .nil)))
def b17 : Ss := (.cons (.ret (.bi .tuple (.cons (.lc b17_l1 (.nm 3) (.ex (.call 15 (.cons (.var 0) (.cons (.var 2) .nil)))) (.cst (.bl true)) [3]) .nil))) .nil)
/-! law -/
def b18_l1 : E := (.op .sub (.call 8 (.cons (.var 1) (.cons (.cst (.int 20)) .nil))) (.cst (.int 5)))
def b18_l2 : E := (.tup (.cons (.op .sub (.call 8 (.cons (.var 1) (.cons (.cst (.int 15)) .nil))) (.cst (.int 4))) (.cons (.tup (.cons (.call 8 (.cons (.var 1) (.cons (.cst (.int 3)) .nil))) (.cons (.op .sub (.call 8 (.cons (.var 1) (.cons (.cst (.int 7)) .nil))) (.cst (.int 3))) .nil))) .nil)))
def b18_l3 : E := (.op .sub (.call 8 (.cons (.var 1) (.cons (.cst (.int 9)) .nil))) (.cst (.int 4)))
def t1 : S := (.par [3, 4] (.cons (.call 11 (.cons (.var 1) .nil)) (.cons (.call 9 (.cons (.var 1) (.cons (.lst (.cons (.cst (.str "count")) (.cons (.cst (.str "sum")) (.cons (.cst (.str "least")) (.cons (.cst (.str "most")) .nil))))) .nil))) .nil)))
def t2 : S := (.asg (.tg (.nm 5)) (.op .sub (.call 8 (.cons (.var 1) (.cons (.cst (.int 30)) .nil))) (.cst (.int 12))))
def t3 : S := (.asg (.tg (.nm 6)) (.tup (.cons (.cst (.str "even")) (.cons (.op .add (.cst (.int 1)) (.call 8 (.cons (.var 1) (.cons (.cst (.int 6)) .nil)))) (.cons (.op .add (.cst (.int 1)) (.call 8 (.cons (.var 1) (.cons (.cst (.int 6)) .nil)))) (.cons (.op .sub (.call 8 (.cons (.var 1) (.cons (.cst (.int 5)) .nil))) (.cst (.int 2))) .nil))))))
def t4 : S := (.ite (.not (.call 10 (.cons (.call 0 (.cons (.var 6) (.cons (.var 5) .nil))) (.cons (.bi .tuple (.cons (.call 12 (.cons (.var 6) (.cons (.var 5) .nil))) .nil)) .nil)))) (.cons (.ret (.cst (.bl false))) .nil) .nil)
def t5 : S := (.asg (.tg (.nm 7)) (.bi .tuple (.cons (.lc b18_l1 (.nm 8) (.rng (.cst (.int 0)) (.call 8 (.cons (.var 1) (.cons (.cst (.int 7)) .nil)))) (.cst (.bl true)) [8]) .nil)))
def t6 : S := (.asg (.tg (.nm 9)) (.op .add (.cst (.int 1)) (.call 8 (.cons (.var 1) (.cons (.cst (.int 5)) .nil)))))
def t7 : S := (.ite (.not (.call 10 (.cons (.call 1 (.cons (.var 9) (.cons (.var 7) .nil))) (.cons (.bi .tuple (.cons (.call 13 (.cons (.var 9) (.cons (.var 7) .nil))) .nil)) .nil)))) (.cons (.ret (.cst (.bl false))) .nil) .nil)
def t8 : S := (.asg (.tg (.nm 10)) (.bi .tuple (.cons (.lc b18_l2 (.nm 8) (.rng (.cst (.int 0)) (.call 8 (.cons (.var 1) (.cons (.cst (.int 8)) .nil)))) (.cst (.bl true)) [8]) .nil)))
def t9 : S := (.ite (.not (.call 10 (.cons (.call 6 (.cons (.var 3) (.cons (.var 4) (.cons (.var 10) .nil)))) (.cons (.call 17 (.cons (.var 3) (.cons (.var 4) (.cons (.var 10) .nil)))) .nil)))) (.cons (.ret (.cst (.bl false))) .nil) .nil)
def t10 : S := (.asg (.tg (.nm 11)) (.lc b18_l3 (.nm 8) (.rng (.cst (.int 0)) (.op .add (.cst (.int 1)) (.call 8 (.cons (.var 1) (.cons (.cst (.int 5)) .nil))))) (.cst (.bl true)) [8]))
def t11 : S := (.ite (.not (.call 10 (.cons (.call 2 (.cons (.var 4) (.cons (.var 11) .nil))) (.cons (.call 14 (.cons (.var 4) (.cons (.var 11) .nil))) .nil)))) (.cons (.ret (.cst (.bl false))) .nil) .nil)
def bT : Ss := (.cons t1 (.cons t2 (.cons t3 (.cons t4 (.cons t5 (.cons t6 (.cons t7 (.cons t8 (.cons t9 (.cons t10 (.cons t11 .nil)))))))))))
end Ev.B22
namespace Ev
open PySem B22
structure K22 (P : List FD) : Prop where
  h0 : P[0]? = some ⟨2, 8, b0⟩
  h1 : P[1]? = some ⟨2, 4, b1⟩
  h2 : P[2]? = some ⟨2, 2, b2⟩
  h3 : P[3]? = some ⟨4, 6, b3⟩
  h4 : P[4]? = some ⟨3, 9, b4⟩
  h5 : P[5]? = some ⟨3, 10, b5⟩
  h6 : P[6]? = some ⟨3, 3, b6⟩
  h7 : P[7]? = some ⟨2, 8, bDraws⟩
  h8 : P[8]? = some ⟨2, 2, bNext⟩
  h9 : P[9]? = some ⟨2, 2, (bPick 8)⟩
  h10 : P[10]? = some ⟨2, 3, (bAlike 10)⟩
  h11 : P[11]? = some ⟨1, 1, b11⟩
  h12 : P[12]? = some ⟨2, 7, b12⟩
  h13 : P[13]? = some ⟨2, 4, b13⟩
  h14 : P[14]? = some ⟨2, 2, b14⟩
  h15 : P[15]? = some ⟨2, 9, b15⟩
  h16 : P[16]? = some ⟨4, 6, b16⟩
  h17 : P[17]? = some ⟨3, 4, b17⟩
  h18 : P[18]? = some ⟨1, 12, bLawG 7 600 9 bT⟩
end Ev
namespace Ev
open PySem B22
/-! ### k22: windows, walked -/
def wprD (size b : Int) : D := .tup [.int b, .int (b + size)]
inductive Kd where
  | rests (gap : Int) | even (size step first : Int)
def Kd.D : Kd → D
  | .rests gap => .tup [W22.rests.W, .int gap]
  | .even size step first => .tup [W22.even.W, .int size, .int step, .int first]
def Kd.ok : Kd → Prop
  | .rests gap => 1 ≤ gap ∧ gap ≤ 10
  | .even size step first => (1 ≤ size ∧ size ≤ 6) ∧ (1 ≤ step ∧ step ≤ 6) ∧ (-10 ≤ first ∧ first ≤ 10)
section
variable [Tab] {P : List FD} {i k n q : Nat} {cf : Cf} {v : Env} {M : Mem} {ds : List Int}
theorem even_k (K : K22 P) {size step first t : Int} (h1 : 1 ≤ size ∧ size ≤ 6) (h2 : 1 ≤ step ∧ step ≤ 6) (h3 : -10 ≤ first ∧ first ≤ 10) (ht : -100 ≤ t ∧ t ≤ 100) (hk : 2 ≤ k) :
    callAt P k 0 [(Kd.even size step first).D, .int t] M = some (en ((evenB size step first t).map fun b => (b, b + size)), M) := by
  obtain ⟨k, rfl⟩ : ∃ z, k = z + 1 := ⟨k - 1, by omega⟩
  have hline : line = 16000000 := rfl
  have l2 : (2 : Nat) ≤ line := by decide
  have hm : mulOk ((t - first) / step) step = true := by
    unfold mulOk
    simp
    right
    omega
  have hs : 0 < step ∧ step < 1073741824 := by omega
  rw [call_eq K.h0 rfl]
  refine of_WP (WP.hide fun Q0 hQ0 => ?_)
  simp [b0, Kd.D, hm, hs, W22.W]
  try simp only [bnd_bnd]
  have I0 := invE_start (size := size) (first := first) (t := t) h2.1
  refine WP.bnd (w_while (fun j v M' => ∃ (b : Int) (acc : List Int), v = [some (Kd.even size step first).D, some (.int t), some W22.even.W, some (.int size), some (.int step), some (.int first), some (.int b), some (.ref M.length)] ∧ M' = M ++ [MO.lst (acc.map (wprD size))] ∧ InvE size step first t b acc ∧ j = (b - (t - size)).toNat ∧ acc.length + j ≤ 6)
    (fun v M' => ∃ (b : Int) (acc : List Int), v = [some (Kd.even size step first).D, some (.int t), some W22.even.W, some (.int size), some (.int step), some (.int first), some (.int b), some (.ref M.length)] ∧ M' = M ++ [MO.lst (acc.map (wprD size))] ∧ acc.reverse = evenB size step first t) ?_ whileMost ((first + (t - first) / step * step) - (t - size)).toNat _ _ (by have := I0.bt; unfold whileMost; omega) ⟨_, [], rfl, rfl, I0, rfl, by have := I0.bt; simp; omega⟩) ?_
  · rintro j v M' ⟨b, acc, rfl, rfl, I, rfl, hl⟩
    have hal : acc.length < line := by omega
    refine WP.hide fun Q hQ => ?_
    by_cases c : t - size < b
    · simp [b0_w1c, c]
      refine WP.fin hQ (.inr ⟨rfl, ?_⟩)
      refine WP.hide fun Q hQ => ?_
      simp [b0_w1, hal, l2]
      refine WP.fin hQ ⟨rfl, (b - step - (t - size)).toNat, by omega, b - step, acc ++ [b], rfl, ?_, invE_step h2.1 I c, rfl, by simp; omega⟩
      simp [wprD]
    · simp [b0_w1c, c]
      exact WP.fin hQ (.inl ⟨rfl, b, acc, rfl, rfl, invE_end I c⟩)
  · rintro ⟨fl, v⟩ M' ⟨_, e, b, acc, rfl, rfl, hr⟩
    cases e
    simp
    refine WP.fin hQ0 ?_
    rw [← List.map_reverse, hr]
    have e : (evenB size step first t).map (wprD size) = ((evenB size step first t).map fun b => (b, b + size)).map en := by
      rw [List.map_map]; rfl
    rw [e]
    exact congrArg some (fin_E ((evenB size step first t).map fun b => (b, b + size)) _)
/-- the law's even windows: a list of pairs -/
theorem leven_k (K : K22 P) {size step first t : Int} (h1 : 1 ≤ size ∧ size ≤ 6) (h2 : 1 ≤ step ∧ step ≤ 6) (h3 : -10 ≤ first ∧ first ≤ 10) (ht : -100 ≤ t ∧ t ≤ 100) (hk : 2 ≤ k) :
    callAt P k 12 [(Kd.even size step first).D, .int t] M = some (.ref M.length, M ++ [MO.lst ((evenB size step first t).map (wprD size))]) := by
  obtain ⟨k, rfl⟩ : ∃ z, k = z + 1 := ⟨k - 1, by omega⟩
  have l2 : (2 : Nat) ≤ line := by decide
  have ok : rOk (t - size + 1) (t + 1) := rOk_of (by omega)
  have hs : 0 < step := by omega
  rw [call_eq K.h12 rfl]
  simp [b12, Kd.D, ok, W22.W]
  rw [rangeI, w_lcf D.int (wprD size) (fun b => decide ((b - first) % step = 0)) rfl (fun b hb => ?_)]
  · simp
    exact fin_ref (Nat.le_refl _)
  · by_cases c : (b - first) % step = 0 <;> simp [b12_l1, c, hs, l2, wprD]
end
end Ev
namespace Ev
open PySem B22
def prP (p : Int × Int) : D := .tup [.int p.1, .int p.2]
theorem prP_en : (prP : Int × Int → D) = en := rfl
theorem ixN_last (n : Nat) : L2.ixN (n + 1) (-1) = some n := by
  unfold L2.ixN
  simp
  omega
theorem set_lastW {α : Type} (xs : List α) (x y : α) : (xs ++ [x]).set xs.length y = xs ++ [y] := by
  rw [List.set_append_right _ _ (Nat.le_refl _), Nat.sub_self]
  rfl
theorem atI_lastW (xs : List D) (x : D) : L2.atI (xs ++ [x]) (-1) = some x := by
  unfold L2.atI
  simp [ixN_last]
theorem sortI_len (l : List Int) : (sortI l).length = l.length := List.length_mergeSort _
section
variable [Tab] {P : List FD} {i k n q : Nat} {cf : Cf} {v : Env} {M : Mem} {ds : List Int}
theorem rests_k (K : K22 P) {gap : Int} {x : D} {l : List Int} (hx : ∀ X, drawsOf (M ++ X) (.v x) = some (l.map D.int)) (hl : l.length ≤ 1000) (hk : 2 ≤ k) :
    callAt P k 1 [.int gap, x] M = some (en (restW gap l), M) := by
  obtain ⟨k, rfl⟩ : ∃ z, k = z + 1 := ⟨k - 1, by omega⟩
  have hline : line = 16000000 := rfl
  have l2 : (2 : Nat) ≤ line := by decide
  have l0 : (0 : Nat) ≤ line := by decide
  have es := sorted_i (hx [MO.lst []])
  have hsl := sortI_len l
  rw [call_eq K.h1 rfl]
  refine of_WP (WP.hide fun Q0 hQ0 => ?_)
  simp [b1, l0, es]
  try simp only [bnd_bnd]
  refine WP.bnd (w_forW D.int (fun dn v M' => ∃ o3, v = [some (.int gap), some x, some (.ref M.length), o3] ∧ M' = M ++ [MO.lst ((dn.foldl (restS gap) []).map prP)]) (fun dn v M' hI => rfl) (sortI l) ?_ ?_) ?_
  · exact ⟨_, rfl, rfl⟩
  · rintro dn t r v M' hd ⟨o3, rfl, rfl⟩
    have hdl : dn.length ≤ 1000 := by rw [hd] at hsl; simp at hsl; omega
    have fl := restF_len gap dn []
    rw [List.foldl_append]
    generalize dn.foldl (restS gap) [] = found at fl
    simp at fl
    have hfl : found.length < line := by omega
    have ne : op2 .ne (.v (.ref M.length)) (.l []) (M ++ [MO.lst (found.map prP)]) = some (.v (.bl (!found.isEmpty)), M ++ [MO.lst (found.map prP)]) := ne_enl (α := Int × Int) (by rw [at_here]; rfl) (by decide)
    refine WP.hide fun Q hQ => ?_
    rcases List.eq_nil_or_concat found with rfl | ⟨init, la, rfl⟩
    · simp at ne
      simp [b1_f1, ne, l2, l0]
      refine WP.fin hQ ⟨rfl, _, rfl, rfl⟩
    · rw [List.concat_eq_append] at *
      simp [prP] at ne hfl
      have e : restS gap (init ++ [la]) t = if t < la.2 then init ++ [(la.1, t + gap)] else init ++ [la] ++ [(t, t + gap)] := by
        unfold restS
        rw [List.getLast?_concat]
        dsimp only
        rw [List.dropLast_concat]
      by_cases c : t < la.2
      · have a1 := atI_lastW (init.map prP) (prP la)
        have a2 := ixN_last init.length
        have a3 := set_lastW (init.map prP) (prP la) (prP (la.1, t + gap))
        simp [prP] at a1 a3
        simp [b1_f1, ne, a1, a2, a3, l2, c, prP]
        refine WP.fin hQ ⟨rfl, _, rfl, ?_⟩
        simp [e, c, prP]
      · have a1 := atI_lastW (init.map prP) (prP la)
        simp [prP] at a1
        simp [b1_f1, ne, a1, l2, c, prP, hfl]
        refine WP.fin hQ ⟨rfl, _, rfl, ?_⟩
        simp [e, c, prP]
  · rintro ⟨fl, v⟩ M' ⟨_, e, o3, rfl, rfl⟩
    cases e
    simp
    refine WP.fin hQ0 ?_
    exact congrArg some (fin_E (restW gap l) _)
theorem lrests_k (K : K22 P) {gap : Int} {x : D} {l : List Int} (hx : ∀ X, drawsOf (M ++ X) (.v x) = some (l.map D.int)) (hl : l.length ≤ 1000) (hk : 2 ≤ k) :
    ∃ q X, callAt P k 13 [.int gap, x] M = some (.ref q, M ++ X) ∧ (M ++ X)[q]? = some (.lst ((restW gap l).map prP)) ∧ M.length ≤ q := by
  obtain ⟨k, rfl⟩ : ∃ z, k = z + 1 := ⟨k - 1, by omega⟩
  have hline : line = 16000000 := rfl
  have l2 : (2 : Nat) ≤ line := by decide
  have l1 : (1 : Nat) ≤ line := by decide
  have l0 : (0 : Nat) ≤ line := by decide
  have es := sorted_i (hx [MO.lst []])
  have hsl := sortI_len l
  have key : WP (callAt P (k + 1) 13 [.int gap, x] M) fun d M' => ∃ q X, d = .ref q ∧ M' = M ++ X ∧ (M ++ X)[q]? = some (.lst ((restW gap l).map prP)) ∧ M.length ≤ q := by
    rw [call_eq K.h13 rfl]
    refine WP.hide fun Q0 hQ0 => ?_
    simp [b13, l0, es]
    try simp only [bnd_bnd]
    refine WP.bnd (w_forW D.int (fun dn v M' => ∃ q X o3, v = [some (.int gap), some x, some (.ref q), o3] ∧ M' = M ++ X ∧ (M ++ X)[q]? = some (.lst ((dn.foldl (restS gap) []).map prP)) ∧ M.length ≤ q) (fun dn v M' hI => rfl) (sortI l) ?_ ?_) ?_
    · exact ⟨M.length, [MO.lst []], _, rfl, rfl, by simp, Nat.le_refl _⟩
    · rintro dn t r v M' hd ⟨q, X, o3, rfl, rfl, hq, hqM⟩
      have hdl : dn.length ≤ 1000 := by rw [hd] at hsl; simp at hsl; omega
      have fl := restF_len gap dn []
      rw [List.foldl_append]
      generalize dn.foldl (restS gap) [] = found at fl hq
      simp at fl
      have ne : op2 .ne (.v (.ref q)) (.l []) (M ++ X) = some (.v (.bl (!found.isEmpty)), M ++ X) := ne_enl (α := Int × Int) hq (by decide)
      refine WP.hide fun Q hQ => ?_
      rcases List.eq_nil_or_concat found with rfl | ⟨init, la, rfl⟩
      · simp at ne hq
        simp [b13_f1, ne, hq, l2, l0, l1]
        refine WP.fin hQ ⟨rfl, (M ++ X).length, X ++ [MO.lst [prP (t, t + gap)]], _, by simp [Nat.add_comm]; rfl, by simp [prP], by rw [← List.append_assoc, at_here]; rfl, by simp⟩
      · rw [List.concat_eq_append] at *
        simp [prP] at ne hq fl
        have e : restS gap (init ++ [la]) t = if t < la.2 then init ++ [(la.1, t + gap)] else init ++ [la] ++ [(t, t + gap)] := by
          unfold restS
          rw [List.getLast?_concat]
          dsimp only
          rw [List.dropLast_concat]
        have a1 : L2.atI (init.map prP ++ [prP la]) ((init.length : Int) + 1 - 1) = some (prP la) := by
          rw [show (init.length : Int) + 1 - 1 = (init.length : Int) by omega]
          simp
        have cu := cut_last (init.map prP ++ [prP la])
        rw [List.dropLast_concat] at cu
        have hs1 : init.length + 1 ≤ line := by omega
        have hs2 : init.length + 1 + 1 ≤ line := by omega
        by_cases c : t < la.2
        · simp [prP] at a1 cu
          simp [b13_f1, ne, hq, a1, cu, l2, l1, c, prP, hs1]
          refine WP.fin hQ ⟨rfl, (M ++ X).length, X ++ [MO.lst ((init ++ [(la.1, t + gap)]).map prP)], _, by simp [Nat.add_comm]; rfl, by simp [prP], ?_, by simp⟩
          rw [← List.append_assoc, at_here]
          simp [e, c]
        · simp [prP] at a1
          simp [b13_f1, ne, hq, a1, l2, l1, c, prP, hs2]
          refine WP.fin hQ ⟨rfl, (M ++ X).length, X ++ [MO.lst ((init ++ [la] ++ [(t, t + gap)]).map prP)], _, by simp [Nat.add_comm]; rfl, by simp [prP], ?_, by simp⟩
          rw [← List.append_assoc, at_here]
          simp [e, c]
    · rintro ⟨fl, v⟩ M' ⟨_, e, q, X, o3, rfl, rfl, hq, hqM⟩
      cases e
      simp [fin_ref hqM]
      exact WP.fin hQ0 ⟨q, X, rfl, rfl, hq, hqM⟩
  obtain ⟨d, M', e, q, X, rfl, rfl, hq, hqM⟩ := key
  exact ⟨q, X, e, hq, hqM⟩
end
end Ev
namespace Ev
open PySem B22
theorem W22.key (w : W22) : isKey false w.W = true := rfl
def rwD (r : Row22) : D := .tup [.int r.1, .tup [.int r.2.1, .int r.2.2]]
theorem rwD_en : (rwD : Row22 → D) = en := rfl
def W22.fold (f : W22) : Prop := f ≠ .even ∧ f ≠ .rests
section
variable [Tab] {P : List FD} {i k n q : Nat} {cf : Cf} {v : Env} {M : Mem} {ds : List Int}
theorem minI_ne {ns : List Int} (h : ns ≠ []) : minI ns = some ((minI ns).getD 0) := by
  cases ns with
  | nil => exact (h rfl).elim
  | cons a l => rfl
theorem maxI_ne {ns : List Int} (h : ns ≠ []) : maxI ns = some ((maxI ns).getD 0) := by
  cases ns with
  | nil => exact (h rfl).elim
  | cons a l => rfl
theorem folded_k (K : K22 P) {f : W22} (hf : f.fold) {ns : List Int} (hq : M[q]? = some (.lst (ns.map D.int))) (hn : ns ≠ []) (hk : 1 ≤ k) :
    callAt P k 2 [f.W, .ref q] M = some (.int (foldV f ns), M) := by
  obtain ⟨k, rfl⟩ : ∃ z, k = z + 1 := ⟨k - 1, by omega⟩
  have e1 := min_i (M := M) (x := .v (.ref q)) (by simp [hq]) (minI_ne hn)
  have e2 := max_i (M := M) (x := .v (.ref q)) (by simp [hq]) (maxI_ne hn)
  have e3 := sum_items (M := M) (x := .v (.ref q)) (l := ns) (by simp [hq])
  rw [call_eq K.h2 rfl]
  cases f with
  | even => exact (hf.1 rfl).elim
  | rests => exact (hf.2 rfl).elim
  | count => simp [b2, W22.c_count, W22.eq, hq, fin_self, foldV]
  | sum => simp [b2, W22.c_count, W22.c_sum, W22.eq, e3, fin_self, foldV]
  | least => simp [b2, W22.c_count, W22.c_sum, W22.c_least, W22.eq, e1, fin_self, foldV]
  | most => simp [b2, W22.c_count, W22.c_sum, W22.c_least, W22.eq, e2, fin_self, foldV]
theorem dic14 (a b c d : D) : kDic false [W22.count.W, a, W22.sum.W, b, W22.least.W, c, W22.most.W, d] M = some (.v (.ref M.length), M ++ [.dic false [(W22.count.W, a), (W22.sum.W, b), (W22.least.W, c), (W22.most.W, d)]]) := by
  unfold kDic
  simp [pairUp, W22.key, dmerge, dput, W22.inj]
theorem lfold_k (K : K22 P) {f : W22} (hf : f.fold) {ns : List Int} (hq : M[q]? = some (.lst (ns.map D.int))) (hn : ns ≠ []) (hk : 1 ≤ k) :
    callAt P k 14 [f.W, .ref q] M = some (.int (foldV f ns), M) := by
  obtain ⟨k, rfl⟩ : ∃ z, k = z + 1 := ⟨k - 1, by omega⟩
  have e1 := min_i (M := M) (x := .v (.ref q)) (by simp [hq]) (minI_ne hn)
  have e2 := max_i (M := M) (x := .v (.ref q)) (by simp [hq]) (maxI_ne hn)
  have e3 := sum_items (M := M) (x := .v (.ref q)) (l := ns) (by simp [hq])
  rw [call_eq K.h14 rfl]
  simp [b14, W22.c_count, W22.c_sum, W22.c_least, W22.c_most, hq, e1, e2, e3, dic14, W22.key, dget]
  cases f with
  | even => exact (hf.1 rfl).elim
  | rests => exact (hf.2 rfl).elim
  | count => simp [W22.inj]; exact fin_P rfl _
  | sum => simp [W22.inj]; exact fin_P rfl _
  | least => simp [W22.inj]; exact fin_P rfl _
  | most => simp [W22.inj]; exact fin_P rfl _
theorem aM2 (x y : D) : L2.atI [x, y] (-1) = some y := atI_lastW [x] y
theorem nums_k (K : K22 P) {rows : List Row22} {b e : Int} {key : Option Int} (hk : 1 ≤ k) :
    callAt P k 3 [.tup (rows.map rwD), .int b, .int e, en key] M = some (.ref M.length, M ++ [MO.lst ((numsW rows b e key).map D.int)]) := by
  obtain ⟨k, rfl⟩ : ∃ z, k = z + 1 := ⟨k - 1, by omega⟩
  rw [call_eq K.h3 rfl]
  simp [b3]
  rw [w_lcf rwD (fun r => D.int r.2.2) (inW b e key) rfl (fun r hr => ?_)]
  · simp [numsW, Function.comp_def]
    exact fin_ref (Nat.le_refl _)
  · cases key with
    | none =>
      by_cases c1 : b ≤ r.1
      · by_cases c2 : r.1 < e <;> simp [rwD, b3_l1, inW, c1, c2, aM2]
      · simp [rwD, b3_l1, inW, c1, aM2]
    | some z =>
      by_cases c1 : b ≤ r.1
      · by_cases c2 : r.1 < e
        · by_cases c3 : r.2.1 = z <;> simp [rwD, b3_l1, inW, c1, c2, c3, aM2]
        · simp [rwD, b3_l1, inW, c1, c2, aM2]
      · simp [rwD, b3_l1, inW, c1, aM2]
/-! .. the law's value of a span -/
def Kd.key (kd : Kd) (z : Int) : Option Int := match kd with
  | .rests _ => some z
  | .even _ _ _ => none
theorem lvalue_k (K : K22 P) {kd : Kd} {f : W22} (hf : f.fold) {rows : List Row22} {b e z : Int} (hn : numsW rows b e (kd.key z) ≠ []) (hk : 2 ≤ k) :
    callAt P k 16 [kd.D, f.W, .tup (rows.map rwD), .tup [.int b, .int e, .int z]] M = some (.int (foldV f (numsW rows b e (kd.key z))), M) := by
  obtain ⟨k, rfl⟩ : ∃ z, k = z + 1 := ⟨k - 1, by omega⟩
  have e1 := lfold_k (k := k) (M := M ++ [MO.lst ((numsW rows b e (kd.key z)).map D.int)]) (q := M.length) K hf (by simp) hn (by omega)
  rw [call_eq K.h16 rfl]
  simp [b16]
  rw [w_lcf rwD (fun r => D.int r.2.2) (inW b e (kd.key z)) rfl (fun r hr => ?_)]
  · have e2 : (rows.filter (inW b e (kd.key z))).map (fun r => D.int r.2.2) = (numsW rows b e (kd.key z)).map D.int := by simp [numsW, Function.comp_def]
    rw [e2]
    simp [e1]
    exact fin_P rfl _
  · cases kd with
    | rests g =>
      by_cases c1 : b ≤ r.1
      · by_cases c2 : r.1 < e
        · by_cases c3 : r.2.1 = z <;> simp [rwD, b16_l1, inW, c1, c2, c3, Kd.D, Kd.key, W22.c_even, W22.eq]
        · simp [rwD, b16_l1, inW, c1, c2, Kd.D, Kd.key, W22.c_even, W22.eq]
      · simp [rwD, b16_l1, inW, c1, Kd.D, Kd.key, W22.c_even, W22.eq]
    | even a1 a2 a3 =>
      by_cases c1 : b ≤ r.1
      · by_cases c2 : r.1 < e <;> simp [rwD, b16_l1, inW, c1, c2, Kd.D, Kd.key, W22.c_even, W22.eq]
      · simp [rwD, b16_l1, inW, c1, Kd.D, Kd.key, W22.c_even, W22.eq]
end
end Ev
namespace Ev
open PySem B22
def evL (size step first t : Int) : List (List Int) := (evenB size step first t).map fun b => [b, b + size]
def spE (size step first : Int) (rows : List Row22) : List (List Int) := rows.flatMap fun r => evL size step first r.1
theorem mem_evL {size step first t : Int} {s : List Int} : s ∈ evL size step first t ↔ ∃ b, s = [b, b + size] ∧ t - size < b ∧ b ≤ t ∧ (b - first) % step = 0 := by
  unfold evL
  rw [List.mem_map]
  constructor
  · rintro ⟨b, h, rfl⟩; exact ⟨b, rfl, mem_evenB.mp h⟩
  · rintro ⟨b, rfl, h⟩; exact ⟨b, mem_evenB.mpr h, rfl⟩
theorem evL_len {size step first t : Int} (h : 1 ≤ size ∧ size ≤ 6) : (evL size step first t).length ≤ 6 := by
  unfold evL evenB
  rw [List.length_map]
  refine Nat.le_trans (List.length_filter_le _ _) ?_
  rw [rng_length]
  omega
theorem spE_len {size step first : Int} (h : 1 ≤ size ∧ size ≤ 6) : ∀ rows : List Row22, (spE size step first rows).length ≤ 6 * rows.length
  | [] => Nat.le_refl _
  | r :: rows => by
    have h1 := spE_len (step := step) (first := first) h rows
    have h2 := evL_len (step := step) (first := first) (t := r.1) h
    unfold spE at h1 ⊢
    rw [List.flatMap_cons, List.length_append, List.length_cons]
    omega
def bS (s : List Int) : Int := s.getD 0 0
def eS (s : List Int) : Int := s.getD 1 0
def kS (s : List Int) : Int := s.getD 2 0
def rOkR (rows : List Row22) : Prop := rows.length ≤ 10 ∧ ∀ r ∈ rows, -100 ≤ r.1 ∧ r.1 ≤ 100
def ansE (f : W22) (rows : List Row22) (s : List Int) : List Int := [bS s, eS s, 0, foldV f (numsW rows (bS s) (eS s) none)]
theorem len_flat {α : Type} (g : α → List (List Int)) {n : Nat} (h : ∀ a, ∀ s ∈ g a, s.length = n) (l : List α) : ∀ s ∈ l.flatMap g, s.length = n := fun s hs => by
  obtain ⟨a, _, h2⟩ := List.mem_flatMap.mp hs
  exact h a s h2
theorem evL_w {size step first t : Int} : ∀ s ∈ evL size step first t, s.length = 2 := fun s hs => by
  obtain ⟨b, rfl, _⟩ := mem_evL.mp hs
  rfl
section
variable [Tab] {P : List FD} {i k n q : Nat} {cf : Cf} {v : Env} {M : Mem} {ds : List Int}
theorem evans_k (K : K22 P) {size step first : Int} (h1 : 1 ≤ size ∧ size ≤ 6) (h2 : 1 ≤ step ∧ step ≤ 6) (h3 : -10 ≤ first ∧ first ≤ 10) {f : W22} (hf : f.fold) {rows : List Row22} (hr : rOkR rows) (hk : 4 ≤ k) :
    callAt P k 4 [(Kd.even size step first).D, f.W, .tup (rows.map rwD)] M = some (en ((srtR (nubR (spE size step first rows))).map (ansE f rows)), M) := by
  obtain ⟨k, rfl⟩ : ∃ z, k = z + 1 := ⟨k - 1, by omega⟩
  have hline : line = 16000000 := rfl
  have l4 : (4 : Nat) ≤ line := by decide
  have l0 : (0 : Nat) ≤ line := by decide
  obtain ⟨hr1, hr2⟩ := hr
  rw [call_eq K.h4 rfl]
  refine of_WP (WP.hide fun Q0 hQ0 => ?_)
  simp [b4, l0]
  try simp only [bnd_bnd]
  refine WP.bnd (w_forW rwD (fun dn v M' => ∃ o4 o5, v = [some (Kd.even size step first).D, some f.W, some (.tup (rows.map rwD)), some (.ref M.length), o4, o5, none, none, none] ∧ M' = M ++ [MO.lst ((spE size step first dn).map tI0)]) (fun dn v M' hI => rfl) rows ?_ ?_) ?_
  · exact ⟨_, _, rfl, rfl⟩
  · rintro dn r rs v M' hd ⟨o4, o5, rfl, rfl⟩
    have hrm : r ∈ rows := by rw [hd]; simp
    have hdl : dn.length ≤ 10 := by rw [hd] at hr1; simp at hr1; omega
    have e := even_k (k := k) (M := M ++ [MO.lst ((spE size step first dn).map tI0)]) K h1 h2 h3 (hr2 r hrm) (by omega)
    rw [show en ((evenB size step first r.1).map fun b => (b, b + size)) = .tup ((evL size step first r.1).map tI0) by unfold evL; rw [List.map_map, en_list, List.map_map]; rfl] at e
    have hs1 := spE_len (step := step) (first := first) h1 dn
    have hs2 := evL_len (step := step) (first := first) (t := r.1) h1
    have hs : (spE size step first dn).length + (evL size step first r.1).length ≤ line := by omega
    refine WP.hide fun Q hQ => ?_
    simp [b4_f1, rwD, e, hs]
    refine WP.fin hQ ⟨rfl, _, _, rfl, ?_⟩
    simp [spE]
  rintro ⟨fl, v⟩ M' ⟨_, e, o4, o5, rfl, rfl⟩
  cases e
  have hsl := spE_len (step := step) (first := first) h1 rows
  have es := set_rows (M := M ++ [MO.lst ((spE size step first rows).map tI0), MO.lst []]) (x := .v (.ref M.length)) (l := spE size step first rows) (n := 2) (by simp) (by omega) (len_flat _ (fun r => evL_w) rows) (by omega)
  have hmem : ∀ s ∈ srtR (nubR (spE size step first rows)), ∃ r ∈ rows, s ∈ evL size step first r.1 := fun s hs => by
    have := (nubR_mem s _).mp ((srtR_perm _).mem_iff.mp hs)
    exact List.mem_flatMap.mp this
  have hnl : (srtR (nubR (spE size step first rows))).length ≤ 60 := by
    rw [(srtR_perm _).length_eq]
    have := nubR_len (spE size step first rows)
    omega
  simp [l0, es]
  try simp only [bnd_bnd]
  refine WP.bnd (w_forW tI0 (fun dn v M' => ∃ X o4 o5 o7 o8, v = [some (Kd.even size step first).D, some f.W, some (.tup (rows.map rwD)), some (.ref M.length), o4, o5, some (.ref (M.length + 1)), o7, o8] ∧ M' = M ++ MO.lst ((spE size step first rows).map tI0) :: MO.lst ((dn.map (ansE f rows)).map tI0) :: X) (fun dn v M' hI => rfl) (srtR (nubR (spE size step first rows))) ?_ ?_) ?_
  · exact ⟨[], _, _, _, _, rfl, rfl⟩
  · rintro dn s rs v M' hd ⟨X, o4, o5, o7, o8, rfl, rfl⟩
    obtain ⟨r, hrm, hs⟩ := hmem s (by rw [hd]; simp)
    obtain ⟨b, rfl, hb1, hb2, _⟩ := mem_evL.mp hs
    have hdl : dn.length ≤ 60 := by rw [hd] at hnl; simp at hnl; omega
    have hal : dn.length < line := by omega
    have hne : numsW rows b (b + size) none ≠ [] := numsW_ne hrm (by simp [inW]; omega)
    have e1 := nums_k (k := k) (M := M ++ MO.lst ((spE size step first rows).map tI0) :: MO.lst ((dn.map (ansE f rows)).map tI0) :: X) (rows := rows) (b := b) (e := b + size) (key := none) K (by omega)
    have e2 := folded_k (k := k) (M := (M ++ MO.lst ((spE size step first rows).map tI0) :: MO.lst ((dn.map (ansE f rows)).map tI0) :: X) ++ [MO.lst ((numsW rows b (b + size) none).map D.int)]) (q := (M ++ MO.lst ((spE size step first rows).map tI0) :: MO.lst ((dn.map (ansE f rows)).map tI0) :: X).length) K hf (by rw [at_here]) hne (by omega)
    simp at e1 e2
    refine WP.hide fun Q hQ => ?_
    simp [b4_f2, tI0, e1, e2, l4, hal]
    refine WP.fin hQ ⟨rfl, X ++ [MO.lst ((numsW rows b (b + size) none).map D.int)], _, _, _, _, rfl, ?_⟩
    simp [ansE, bS, eS, tI0]
  · rintro ⟨fl, v⟩ M' ⟨_, e, X, o4, o5, o7, o8, rfl, rfl⟩
    cases e
    simp
    refine WP.fin hQ0 ?_
    exact fin_of (by rw [en_list, List.map_map]; rfl) (En.pure ((srtR (nubR (spE size step first rows))).map (ansE f rows))) _
end
/-! .. rests -/
def tmK (rows : List Row22) (key : Int) : List Int := (rows.filter fun r => decide (r.2.1 = key)).map (·.1)
def ansR (f : W22) (rows : List Row22) (key : Int) (p : Int × Int) : List Int := [p.1, p.2, key, foldV f (numsW rows p.1 p.2 (some key))]
def keysR (rows : List Row22) : List Int := srtI (nubI (rows.map fun r => r.2.1))
def allR (gap : Int) (f : W22) (rows : List Row22) (keys : List Int) : List (List Int) := keys.flatMap fun key => (restW gap (tmK rows key)).map (ansR f rows key)
theorem tmK_len (rows : List Row22) (key : Int) : (tmK rows key).length ≤ rows.length := by
  unfold tmK
  rw [List.length_map]
  exact List.length_filter_le _ _
theorem allR_len (gap : Int) (f : W22) (rows : List Row22) : ∀ keys : List Int, (allR gap f rows keys).length ≤ rows.length * keys.length
  | [] => Nat.zero_le _
  | key :: keys => by
    have h1 := allR_len gap f rows keys
    have h2 := restW_len gap (tmK rows key)
    have h3 := tmK_len rows key
    unfold allR at h1 ⊢
    rw [List.flatMap_cons, List.length_append, List.length_map, List.length_cons, Nat.mul_add]
    omega
theorem rests_ne {gap : Int} (hg : 1 ≤ gap) {rows : List Row22} {key : Int} {p : Int × Int} (h : p ∈ restW gap (tmK rows key)) : numsW rows p.1 p.2 (some key) ≠ [] := by
  obtain ⟨h1, h2⟩ := (restW_ok hg _).1 p h
  obtain ⟨r, hr, e⟩ := List.mem_map.mp h1
  obtain ⟨hr, hk⟩ := List.mem_filter.mp hr
  have hk := of_decide_eq_true hk
  exact numsW_ne hr (by simp [inW, hk]; omega)
theorem keysR_len (rows : List Row22) : (keysR rows).length ≤ rows.length := by
  unfold keysR srtI
  rw [List.length_mergeSort]
  exact Nat.le_trans (nub_len _) (by simp)
section
variable [Tab] {P : List FD} {i k n q : Nat} {cf : Cf} {v : Env} {M : Mem} {ds : List Int}
theorem restans_k (K : K22 P) {gap : Int} (hg : 1 ≤ gap) {f : W22} (hf : f.fold) {rows : List Row22} (hr : rOkR rows) (hk : 4 ≤ k) :
    callAt P k 5 [.int gap, f.W, .tup (rows.map rwD)] M = some (en (srtR (allR gap f rows (keysR rows))), M) := by
  obtain ⟨k, rfl⟩ : ∃ z, k = z + 1 := ⟨k - 1, by omega⟩
  have hline : line = 16000000 := rfl
  have l4 : (4 : Nat) ≤ line := by decide
  have l0 : (0 : Nat) ≤ line := by decide
  obtain ⟨hr1, hr2⟩ := hr
  have hkl := keysR_len rows
  have es := set_i (M := M ++ [MO.lst []]) (x := .l (rows.map fun r => D.int r.2.1)) (l := rows.map fun r => r.2.1) (by rw [List.map_map]; rfl) (by simp; omega)
  rw [call_eq K.h5 rfl]
  refine of_WP (WP.hide fun Q0 hQ0 => ?_)
  simp [b5, l0]
  try simp only [bnd_bnd]
  rw [w_lcm rwD (fun r => D.int r.2.1) rfl (fun r hr => by simp [rwD])]
  simp [es]
  try simp only [bnd_bnd]
  refine WP.bnd (w_forW D.int (fun dn v M' => ∃ X o4 o5 o6 o7 o8 o9, v = [some (.int gap), some f.W, some (.tup (rows.map rwD)), some (.ref M.length), o4, o5, o6, o7, o8, o9] ∧ M' = M ++ MO.lst ((allR gap f rows dn).map tI0) :: X) (fun dn v M' hI => rfl) (keysR rows) ?_ ?_) ?_
  · exact ⟨[], _, _, _, _, _, _, rfl, rfl⟩
  · rintro dn key rs v M' hd ⟨X, o4, o5, o6, o7, o8, o9, rfl, rfl⟩
    have hdl : dn.length ≤ 10 := by rw [hd] at hkl; simp at hkl; omega
    have hal := allR_len gap f rows dn
    have hal : (allR gap f rows dn).length ≤ 100 := Nat.le_trans hal (Nat.mul_le_mul hr1 hdl)
    have htl := tmK_len rows key
    have hwl := restW_len gap (tmK rows key)
    rw [show allR gap f rows (dn ++ [key]) = allR gap f rows dn ++ (restW gap (tmK rows key)).map (ansR f rows key) by simp [allR]]
    generalize allR gap f rows dn = base at hal
    have e1 := rests_k (k := k) (gap := gap) (x := .ref (M ++ MO.lst (base.map tI0) :: X).length) (l := tmK rows key) (M := (M ++ MO.lst (base.map tI0) :: X) ++ [MO.lst ((tmK rows key).map D.int)]) K (fun Y => by rw [drawsOf_r, List.append_assoc, List.singleton_append, at_here]; rfl) (by omega) (by omega)
    simp at e1
    refine WP.hide fun Q hQ => ?_
    simp [b5_f2]
    rw [w_lcf rwD (fun r => D.int r.1) (fun r => decide (r.2.1 = key)) rfl (fun r hr => by by_cases c : r.2.1 = key <;> simp [rwD, c])]
    rw [show (rows.filter fun r => decide (r.2.1 = key)).map (fun r => D.int r.1) = (tmK rows key).map D.int by simp [tmK, Function.comp_def]]
    simp [e1]
    try simp only [bnd_bnd]
    rw [show (restW gap (tmK rows key)).map en = (restW gap (tmK rows key)).map prP from rfl]
    refine WP.bnd (w_forW prP (fun dn v M' => ∃ X o5 o6 o7 o8 o9, v = [some (.int gap), some f.W, some (.tup (rows.map rwD)), some (.ref M.length), some (.int key), o5, o6, o7, o8, o9] ∧ M' = M ++ MO.lst ((base ++ dn.map (ansR f rows key)).map tI0) :: X) (fun dn v M' hI => rfl) (restW gap (tmK rows key)) ?_ ?_) ?_
    · exact ⟨X ++ [MO.lst ((tmK rows key).map D.int)], _, _, _, _, _, rfl, by simp⟩
    · rintro dn2 p rs2 v M' hd2 ⟨X, o5, o6, o7, o8, o9, rfl, rfl⟩
      have hpm : p ∈ restW gap (tmK rows key) := by rw [hd2]; simp
      have hne := rests_ne hg hpm
      have hdl2 : dn2.length ≤ 10 := by rw [hd2] at hwl; simp at hwl; omega
      have hsl : base.length + dn2.length < line := by omega
      have e1 := nums_k (k := k) (M := M ++ MO.lst ((base ++ dn2.map (ansR f rows key)).map tI0) :: X) (rows := rows) (b := p.1) (e := p.2) (key := some key) K (by omega)
      have e2 := folded_k (k := k) (M := (M ++ MO.lst ((base ++ dn2.map (ansR f rows key)).map tI0) :: X) ++ [MO.lst ((numsW rows p.1 p.2 (some key)).map D.int)]) (q := (M ++ MO.lst ((base ++ dn2.map (ansR f rows key)).map tI0) :: X).length) K hf (by rw [at_here]) hne (by omega)
      simp at e1 e2
      refine WP.hide fun Q hQ => ?_
      simp [b5_f1, prP, e1, e2, l4, hsl]
      refine WP.fin hQ ⟨rfl, X ++ [MO.lst ((numsW rows p.1 p.2 (some key)).map D.int)], _, _, _, _, _, rfl, ?_⟩
      simp [ansR, tI0]
    · rintro ⟨fl, v⟩ M' ⟨_, e, X, o5, o6, o7, o8, o9, rfl, rfl⟩
      cases e
      simp
      exact WP.fin hQ ⟨rfl, X, _, _, _, _, _, _, rfl, by simp⟩
  · rintro ⟨fl, v⟩ M' ⟨_, e, X, o4, o5, o6, o7, o8, o9, rfl, rfl⟩
    cases e
    have es2 := sorted_rows (M := M ++ MO.lst ((allR gap f rows (keysR rows)).map tI0) :: X) (x := .v (.ref M.length)) (l := allR gap f rows (keysR rows)) (n := 4) (by simp) (len_flat _ (fun key s hs => by obtain ⟨p, _, rfl⟩ := List.mem_map.mp hs; rfl) _) (by omega)
    simp [es2]
    refine WP.fin hQ0 ?_
    exact fin_of rfl (En.pure (srtR (allR gap f rows (keysR rows)))) _
end
end Ev
namespace Ev
open PySem B22
/-! .. what a kind of windows gives -/
def ownK (kd : Kd) (rows : List Row22) (r : Row22) : List (List Int) := match kd with
  | .even size step first => (evenB size step first r.1).map fun b => [b, b + size, 0]
  | .rests gap => (restW gap (tmK rows r.2.1)).map fun p => [p.1, p.2, r.2.1]
def spansK (kd : Kd) (rows : List Row22) : List (List Int) := rows.foldl (fun f r => addN f (ownK kd rows r)) []
def progK (kd : Kd) (f : W22) (rows : List Row22) : List (List Int) := match kd with
  | .even size step first => (srtR (nubR (spE size step first rows))).map (ansE f rows)
  | .rests gap => srtR (allR gap f rows (keysR rows))
def valK (kd : Kd) (f : W22) (rows : List Row22) (s : List Int) : Int := foldV f (numsW rows (bS s) (eS s) (kd.key (kS s)))
theorem own_w {kd : Kd} {rows : List Row22} {r : Row22} : ∀ s ∈ ownK kd rows r, s.length = 3 := fun s hs => by
  unfold ownK at hs
  split at hs
  · obtain ⟨b, _, rfl⟩ := List.mem_map.mp hs; rfl
  · obtain ⟨b, _, rfl⟩ := List.mem_map.mp hs; rfl
theorem own_ne {kd : Kd} (ok : kd.ok) {rows : List Row22} {r : Row22} (hr : r ∈ rows) {s : List Int} (hs : s ∈ ownK kd rows r) : ∃ b e z, s = [b, e, z] ∧ numsW rows b e (kd.key z) ≠ [] := by
  unfold ownK at hs
  cases kd with
  | even size step first =>
    obtain ⟨b, hb, rfl⟩ := List.mem_map.mp hs
    obtain ⟨h1, h2, _⟩ := mem_evenB.mp hb
    exact ⟨_, _, _, rfl, numsW_ne hr (by simp [inW, Kd.key]; omega)⟩
  | rests gap =>
    obtain ⟨p, hp, rfl⟩ := List.mem_map.mp hs
    exact ⟨_, _, _, rfl, rests_ne ok.1 hp⟩
theorem own_nodup {kd : Kd} (ok : kd.ok) (rows : List Row22) (r : Row22) : (ownK kd rows r).Nodup := by
  unfold ownK
  cases kd with
  | even size step first =>
    refine List.pairwise_map.mpr ((evenB_nodup size step first r.1).imp fun h e => h ?_)
    injection e
  | rests gap =>
    refine List.pairwise_map.mpr ((restW_ok ok.1 _).2.imp fun h e => ?_)
    injection e with e1 _
    omega
theorem own_len {kd : Kd} (ok : kd.ok) {rows : List Row22} (hr : rows.length ≤ 10) (r : Row22) : (ownK kd rows r).length ≤ 10 := by
  unfold ownK
  cases kd with
  | even size step first =>
    have := evL_len (step := step) (first := first) (t := r.1) ok.1
    unfold evL at this
    rw [List.length_map] at this ⊢
    omega
  | rests gap =>
    have h1 := restW_len gap (tmK rows r.2.1)
    have h2 := tmK_len rows r.2.1
    dsimp only
    rw [List.length_map]
    omega
theorem addN_len (f o : List (List Int)) : (addN f o).length ≤ f.length + o.length := by
  unfold addN
  rw [List.length_append]
  have := List.length_filter_le (fun s => decide (s ∉ f)) o
  omega
theorem foldN_len {kd : Kd} (ok : kd.ok) {rows : List Row22} (hr : rows.length ≤ 10) : ∀ (l : List Row22) (f : List (List Int)), (l.foldl (fun f r => addN f (ownK kd rows r)) f).length ≤ f.length + 10 * l.length
  | [], f => Nat.le_refl _
  | r :: l, f => by
    have h1 := foldN_len ok hr l (addN f (ownK kd rows r))
    have h2 := addN_len f (ownK kd rows r)
    have h3 := own_len ok hr r
    rw [List.foldl_cons, List.length_cons]
    omega
theorem spansK_spec {kd : Kd} (ok : kd.ok) (rows : List Row22) : (spansK kd rows).Nodup ∧ ∀ s, s ∈ spansK kd rows ↔ ∃ r ∈ rows, s ∈ ownK kd rows r := by
  obtain ⟨h1, h2⟩ := addN_fold (ownK kd rows) (own_nodup ok rows) rows [] List.nodup_nil
  exact ⟨h1, fun s => by rw [spansK, h2 s]; simp⟩
/-! .. the two alike -/
theorem srtR_eq {l m : List (List Int)} (p : l.Perm m) (s : m.Pairwise fun a b => lexI b a = false) : srtR l = m :=
  List.Perm.eq_of_pairwise (le := fun a b => lexI b a = false) (fun a b _ _ h1 h2 => lexI_tot h2 h1) (srtR_pw l) s ((srtR_perm l).trans p)
theorem srtR_congr {l m : List (List Int)} (p : l.Perm m) : srtR l = srtR m := srtR_eq (p.trans (srtR_perm m).symm) (srtR_pw m)
theorem srtR_app {n : Nat} {l : List (List Int)} (hl : ∀ s ∈ l, s.length = n) (v : List Int → List Int) : srtR (l.map fun s => s ++ v s) = (srtR l).map fun s => s ++ v s := by
  refine srtR_eq ((srtR_perm l).symm.map _) (List.pairwise_map.mpr ?_)
  have : ∀ {m : List (List Int)}, (∀ s ∈ m, s.length = n) → m.Pairwise (fun a b => lexI b a = false) → m.Pairwise fun a b => lexI (b ++ v b) (a ++ v a) = false := fun {m} hm hp => by
    induction m with
    | nil => exact List.Pairwise.nil
    | cons a m ih =>
      obtain ⟨h1, h2⟩ := List.pairwise_cons.mp hp
      refine List.pairwise_cons.mpr ⟨fun b hb => ?_, ih (fun s hs => hm s (List.mem_cons_of_mem _ hs)) h2⟩
      by_cases c : b = a
      · subst c; exact lexI_irr _
      · rw [lexI_app (by rw [hm b (List.mem_cons_of_mem _ hb), hm a List.mem_cons_self]) c]
        exact h1 b hb
  exact this (fun s hs => hl s ((srtR_perm l).mem_iff.mp hs)) (srtR_pw l)
theorem spans_w {kd : Kd} (ok : kd.ok) {rows : List Row22} : ∀ s ∈ spansK kd rows, s.length = 3 := fun s hs => by
  obtain ⟨r, _, h⟩ := ((spansK_spec ok rows).2 s).mp hs
  exact own_w s h
theorem w3 {s : List Int} (h : s.length = 3) : s = [bS s, eS s, kS s] := by
  match s, h with
  | [a, b, c], _ => rfl
theorem prog_law {kd : Kd} (ok : kd.ok) (f : W22) (rows : List Row22) : progK kd f rows = (srtR (spansK kd rows)).map fun s => s ++ [valK kd f rows s] := by
  obtain ⟨hn, hm⟩ := spansK_spec ok rows
  cases kd with
  | even size step first =>
    have p : (spansK (.even size step first) rows).Perm ((nubR (spE size step first rows)).map fun s => s ++ [0]) := by
      refine (List.perm_ext_iff_of_nodup hn (List.pairwise_map.mpr ((nubR_nodup _).imp fun h e => h (List.append_cancel_right e)))).mpr fun s => ?_
      rw [hm s, List.mem_map]
      constructor
      · rintro ⟨r, hr, hs⟩
        obtain ⟨b, hb, rfl⟩ := List.mem_map.mp hs
        exact ⟨[b, b + size], (nubR_mem _ _).mpr (List.mem_flatMap.mpr ⟨r, hr, List.mem_map.mpr ⟨b, hb, rfl⟩⟩), rfl⟩
      · rintro ⟨t, ht, rfl⟩
        obtain ⟨r, hr, hs⟩ := List.mem_flatMap.mp ((nubR_mem _ _).mp ht)
        obtain ⟨b, hb, rfl⟩ := List.mem_map.mp hs
        exact ⟨r, hr, List.mem_map.mpr ⟨b, hb, rfl⟩⟩
    have hw : ∀ s ∈ nubR (spE size step first rows), s.length = 2 := fun s hs => len_flat _ (fun r => evL_w) rows s ((nubR_mem _ _).mp hs)
    rw [srtR_congr p, srtR_app hw fun _ => [0], List.map_map]
    refine List.map_congr_left fun s hs => ?_
    have := hw s ((srtR_perm _).mem_iff.mp hs)
    match s, this with
    | [a, b], _ => rfl
  | rests gap =>
    rw [← srtR_app (spans_w ok)]
    refine srtR_congr ?_
    have p : (spansK (.rests gap) rows).Perm ((keysR rows).flatMap fun key => (restW gap (tmK rows key)).map fun p => [p.1, p.2, key]) := by
      refine (List.perm_ext_iff_of_nodup hn ?_).mpr fun s => ?_
      · refine List.pairwise_flatMap.mpr ⟨fun key _ => List.pairwise_map.mpr ((restW_ok ok.1 _).2.imp fun h e => ?_), ?_⟩
        · injection e with e1 _
          omega
        · have hk : (keysR rows).Nodup := (List.mergeSort_perm _ _).nodup_iff.mpr (nub_nodup _)
          refine hk.imp fun {a b} h s h1 t h2 => ?_
          obtain ⟨p, _, rfl⟩ := List.mem_map.mp h1
          obtain ⟨q, _, rfl⟩ := List.mem_map.mp h2
          intro e
          injection e with _ e
          injection e with _ e
          injection e with e _
          exact h e
      · rw [hm s, List.mem_flatMap]
        have hk : ∀ z, z ∈ keysR rows ↔ ∃ r ∈ rows, r.2.1 = z := fun z => by
          rw [keysR, srtI, (List.mergeSort_perm _ _).mem_iff, nub_mem, List.mem_map]
        constructor
        · rintro ⟨r, hr, hs⟩
          exact ⟨r.2.1, (hk _).mpr ⟨r, hr, rfl⟩, hs⟩
        · rintro ⟨z, hz, hs⟩
          obtain ⟨r, hr, rfl⟩ := (hk _).mp hz
          exact ⟨r, hr, hs⟩
    refine List.Perm.trans ?_ (p.symm.map _)
    unfold allR
    rw [List.map_flatMap]
    refine List.Perm.of_eq ?_
    congr 1
    funext key
    rw [List.map_map]
    rfl
section
variable [Tab] {P : List FD} {i k n q : Nat} {cf : Cf} {v : Env} {M : Mem} {ds : List Int}
theorem kd_even {kd : Kd} : ∃ l, kd.D = .tup l ∧ (∃ w r, l = W22.W w :: r ∧ (w = .even ↔ ∃ a b c, kd = .even a b c)) := by
  cases kd with
  | rests g => exact ⟨_, rfl, _, _, rfl, by simp⟩
  | even a b c => exact ⟨_, rfl, _, _, rfl, by simp⟩
theorem windowed_k (K : K22 P) {kd : Kd} (ok : kd.ok) {f : W22} (hf : f.fold) {rows : List Row22} (hr : rOkR rows) (hk : 6 ≤ k) :
    callAt P k 6 [kd.D, f.W, .tup (rows.map rwD)] M = some (en (progK kd f rows), M) := by
  obtain ⟨k, rfl⟩ : ∃ z, k = z + 1 := ⟨k - 1, by omega⟩
  rw [call_eq K.h6 rfl]
  cases kd with
  | rests g =>
    have e := restans_k (k := k) (M := M) K ok.1 hf hr (by omega)
    have e2 := fin_self (M := M) (d := en (progK (.rests g) f rows))
    simp [b6, Kd.D, W22.c_even, W22.eq, e, fin_self, progK]
  | even a b c =>
    have e := evans_k (k := k) (M := M) K ok.1 ok.2.1 ok.2.2 hf hr (by omega)
    simp [Kd.D] at e
    simp [b6, Kd.D, W22.c_even, W22.eq, e, fin_self, progK]
theorem lspans_k (K : K22 P) {kd : Kd} (ok : kd.ok) {rows : List Row22} (hr : rOkR rows) (hk : 4 ≤ k) :
    ∃ q X, callAt P k 15 [kd.D, .tup (rows.map rwD)] M = some (.ref q, M ++ X) ∧ (M ++ X)[q]? = some (.lst ((srtR (spansK kd rows)).map tI0)) ∧ M.length ≤ q := by
  obtain ⟨k, rfl⟩ : ∃ z, k = z + 1 := ⟨k - 1, by omega⟩
  have hline : line = 16000000 := rfl
  have l0 : (0 : Nat) ≤ line := by decide
  have l1 : (1 : Nat) ≤ line := by decide
  have l3 : (3 : Nat) ≤ line := by decide
  obtain ⟨hr1, hr2⟩ := hr
  have key : WP (callAt P (k + 1) 15 [kd.D, .tup (rows.map rwD)] M) fun d M' => ∃ q X, d = .ref q ∧ M' = M ++ X ∧ (M ++ X)[q]? = some (.lst ((srtR (spansK kd rows)).map tI0)) ∧ M.length ≤ q := by
    rw [call_eq K.h15 rfl]
    refine WP.hide fun Q0 hQ0 => ?_
    simp [b15, l0]
    try simp only [bnd_bnd]
    refine WP.bnd (w_forW rwD (fun dn v M' => ∃ q X o3 o4 o5, v = [some kd.D, some (.tup (rows.map rwD)), some (.ref q), o3, o4, o5, none, none, none] ∧ M' = M ++ X ∧ (M ++ X)[q]? = some (.lst ((dn.foldl (fun f r => addN f (ownK kd rows r)) []).map tI0)) ∧ M.length ≤ q) (fun dn v M' hI => rfl) rows ?_ ?_) ?_
    · exact ⟨M.length, [MO.lst []], _, _, _, rfl, rfl, by simp, Nat.le_refl _⟩
    · rintro dn r rs v M' hd ⟨q, X, o3, o4, o5, rfl, rfl, hq, hqM⟩
      have hrm : r ∈ rows := by rw [hd]; simp
      have hdl : dn.length ≤ 10 := by rw [hd] at hr1; simp at hr1; omega
      have fl := foldN_len ok hr1 dn []
      have ol := own_len ok hr1 r
      rw [List.foldl_append]
      generalize dn.foldl (fun f r => addN f (ownK kd rows r)) [] = F at fl hq
      simp at fl
      -- its own spans, a new list at the end
      have hown : ∃ Y, ∀ (Q : Fl × Env → Mem → Prop), WP (exs (cfA P k) (.cons (.asg (.tg (.nm 2)) (.op .add (.var 2) (.lc (.var 6) (.nm 6) (.ex (.var 5)) (.op .notin (.var 6) (.var 2)) [6]))) .nil) [some kd.D, some (.tup (rows.map rwD)), some (.ref q), some (.int r.1), some (.tup [.int r.2.1, .int r.2.2]), some (.ref (M ++ X ++ Y).length), none, none, none] ((M ++ X ++ Y) ++ [MO.lst ((ownK kd rows r).map tI0)])) Q →
          WP (exs (cfA P k) b15_f2 [some kd.D, some (.tup (rows.map rwD)), some (.ref q), some (.int r.1), some (.tup [.int r.2.1, .int r.2.2]), o5, none, none, none] (M ++ X)) Q := by
        cases kd with
        | even size step first =>
          have e := leven_k (k := k) (M := M ++ X) K ok.1 ok.2.1 ok.2.2 (hr2 r hrm) (by omega)
          refine ⟨[MO.lst ((evenB size step first r.1).map (wprD size))], fun Q h => ?_⟩
          unfold b15_f2
          simp [Kd.D] at e
          simp [Kd.D, W22.c_even, W22.eq, e, l1]
          rw [w_lcm (wprD size) (fun b => tI0 [b, b + size, 0]) (by simp [← List.append_assoc]) (fun b hb => by simp [wprD, l3, l1, tI0])]
          rw [show (evenB size step first r.1).map (fun b => tI0 [b, b + size, 0]) = (ownK (.even size step first) rows r).map tI0 by unfold ownK; rw [List.map_map]; rfl]
          simp [Kd.D, Nat.add_assoc] at h
          simp [Nat.add_assoc]
          exact h
        | rests gap =>
          have htl := tmK_len rows r.2.1
          obtain ⟨q2, X2, e1, e2, e3⟩ := lrests_k (k := k) (gap := gap) (x := .ref (M ++ X).length) (l := tmK rows r.2.1) (M := (M ++ X) ++ [MO.lst ((tmK rows r.2.1).map D.int)]) K (fun Y => by rw [drawsOf_r, List.append_assoc, List.singleton_append, at_here]; rfl) (by omega) (by omega)
          refine ⟨MO.lst ((tmK rows r.2.1).map D.int) :: X2, fun Q h => ?_⟩
          unfold b15_f2
          simp [Kd.D, W22.c_even, W22.eq]
          rw [w_lcf rwD (fun r => D.int r.1) (fun z => decide (z.2.1 = r.2.1)) rfl (fun z hz => by by_cases c : z.2.1 = r.2.1 <;> simp [rwD, c])]
          rw [show (rows.filter fun z => decide (z.2.1 = r.2.1)).map (fun r => D.int r.1) = (tmK rows r.2.1).map D.int by simp [tmK, Function.comp_def]]
          simp at e1 e2
          simp [e1, e2]
          rw [w_lcm prP (fun p => tI0 [p.1, p.2, r.2.1]) (by simp [e2]) (fun p hp => by simp [b15_l1, prP, l3, l1, tI0])]
          rw [show (restW gap (tmK rows r.2.1)).map (fun p => tI0 [p.1, p.2, r.2.1]) = (ownK (.rests gap) rows r).map tI0 by unfold ownK; rw [List.map_map]; rfl]
          simp [Kd.D] at h
          simp
          exact h
      obtain ⟨Y, hown⟩ := hown
      refine WP.hide fun Q hQ => ?_
      simp [rwD]
      refine hown Q ?_
      have hq' : ∀ Z, (M ++ X ++ Z)[q]? = some (.lst (F.map tI0)) := fun Z => by rw [app_at Z (List.getElem?_eq_some_iff.mp hq).1]; exact hq
      have hqa : (M ++ X ++ Y ++ [MO.lst ((ownK kd rows r).map tI0)])[q]? = some (.lst (F.map tI0)) := by rw [List.append_assoc (M ++ X)]; exact hq' _
      have hqo : (M ++ X ++ Y ++ [MO.lst ((ownK kd rows r).map tI0)])[(M ++ X ++ Y).length]? = some (.lst ((ownK kd rows r).map tI0)) := at_here _ _
      have hno : ∀ s : List Int, op2 .notin (.v (tI0 s)) (.v (.ref q)) (M ++ X ++ Y ++ [MO.lst ((ownK kd rows r).map tI0)]) = some (.v (.bl (!decide (s ∈ F))), M ++ X ++ Y ++ [MO.lst ((ownK kd rows r).map tI0)]) := fun s => notin_r (α := List Int) (by decide) hqa s
      have hM : M ++ X ++ Y ++ [MO.lst ((ownK kd rows r).map tI0)] = M ++ (X ++ Y ++ [MO.lst ((ownK kd rows r).map tI0)]) := by simp
      have hlen : (M ++ X ++ Y).length = M.length + (X.length + Y.length) := by simp
      rw [hlen] at hqo ⊢
      rw [hM] at hqa hqo hno ⊢
      generalize X ++ Y ++ [MO.lst ((ownK kd rows r).map tI0)] = Z at *
      have hfl : (F.map tI0).length + (((ownK kd rows r).filter fun s => decide (s ∉ F)).map tI0).length ≤ line := by
        have := List.length_filter_le (fun s => decide (s ∉ F)) (ownK kd rows r)
        rw [List.length_map, List.length_map]
        omega
      simp [hqo]
      rw [w_lcf tI0 tI0 (fun s => decide (s ∉ F)) (by simp [hqo]) (fun s hs => by by_cases c : s ∈ F <;> simp [hno, c])]
      simp at hfl
      simp [hqa, hfl]
      refine WP.fin hQ ⟨rfl, (M ++ Z).length, Z ++ [MO.lst ((addN F (ownK kd rows r)).map tI0)], some (.int r.1), some (.tup [.int r.2.1, .int r.2.2]), some (.ref (M.length + (X.length + Y.length))), by simp, by simp [addN], ?_, by simp⟩
      rw [← List.append_assoc, at_here]
      simp
    · rintro ⟨fl, v⟩ M' ⟨_, e, q, X, o3, o4, o5, rfl, rfl, hq, hqM⟩
      cases e
      have es := sorted_rows (M := M ++ X) (x := .v (.ref q)) (l := spansK kd rows) (n := 3) (by simp [hq]; rfl) (spans_w ok) (by omega)
      simp [es]
      have hf : M.length ≤ M.length + X.length := by omega
      simp [fin_ref hf]
      exact WP.fin hQ0 ⟨(M ++ X).length, X ++ [MO.lst ((srtR (spansK kd rows)).map tI0)], by simp, by simp, by rw [← List.append_assoc, at_here], by simp⟩
  obtain ⟨d, M', e, q, X, rfl, rfl, hq, hqM⟩ := key
  exact ⟨q, X, e, hq, hqM⟩
theorem lwindowed_k (K : K22 P) {kd : Kd} (ok : kd.ok) {f : W22} (hf : f.fold) {rows : List Row22} (hr : rOkR rows) (hk : 6 ≤ k) :
    callAt P k 17 [kd.D, f.W, .tup (rows.map rwD)] M = some (en (progK kd f rows), M) := by
  obtain ⟨k, rfl⟩ : ∃ z, k = z + 1 := ⟨k - 1, by omega⟩
  have l1 : (1 : Nat) ≤ line := by decide
  have l4 : (4 : Nat) ≤ line := by decide
  obtain ⟨q, X, e1, e2, e3⟩ := lspans_k (k := k) (M := M) K ok hr (by omega)
  rw [prog_law ok]
  rw [call_eq K.h17 rfl]
  simp [b17, e1, e2]
  rw [w_lcm tI0 (fun s => tI0 (s ++ [valK kd f rows s])) (by simp [e2]) (fun s hs => ?_)]
  · simp
    have h0 := fin_P (M := M) (d := en ((srtR (spansK kd rows)).map fun s => s ++ [valK kd f rows s])) (En.pure _) X
    rw [en_list, List.map_map] at h0
    exact h0
  · obtain ⟨r, hrm, hs⟩ := ((spansK_spec ok rows).2 s).mp ((srtR_perm _).mem_iff.mp hs)
    obtain ⟨b, e, z, rfl, hne⟩ := own_ne ok hrm hs
    have e5 := lvalue_k (k := k) (M := M ++ X) K hf hne (by omega)
    simp [b17_l1, tI0, e5, l1, l4, valK, bS, eS, kS]
end
end Ev
namespace Ev
open PySem B22
section
variable [Tab] {P : List FD} {i k n q : Nat} {cf : Cf} {v : Env} {M : Mem} {ds : List Int}
/-- a list of what is drawn -/
theorem w_lcd {α : Type} {body : D → Mem → Option (Option D × Mem)} (f : α → D) (Pr : α → Prop) :
    ∀ (l : List D) {M : Mem}, WM ds M → (∀ d M1, WM ds M1 → ∃ x M2, body d M1 = some (some (f x), M2) ∧ Pr x ∧ Gm ds M1 M2) → ∃ (xs : List α) (M2 : Mem), lcLoop body none l M = some (xs.map f, M2) ∧ xs.length = l.length ∧ (∀ x ∈ xs, Pr x) ∧ Gm ds M M2
  | [], M, hw, hb => ⟨[], M, rfl, rfl, (fun x h => nomatch h), ⟨hw, Nat.le_refl _, fun _ _ _ => rfl⟩⟩
  | d :: l, M, hw, hb => by
    obtain ⟨x, M1, e1, p1, g1⟩ := hb d M hw
    obtain ⟨xs, M2, e2, l2, p2, g2⟩ := w_lcd f Pr l g1.w hb
    refine ⟨x :: xs, M2, ?_, by simp [l2], fun y hy => ?_, g1.trans g2⟩
    · rw [lcLoop, if_pos still_none, e1, bnd_some, e2, bnd_some]
      rfl
    · rcases List.mem_cons.mp hy with rfl | hy
      · exact p1
      · exact p2 y hy
theorem rangeN (n : Nat) : (rangeD 0 (n : Int)).length = n := by simp [rangeD]
theorem rangeN1 (n : Nat) : (rangeD 0 (1 + (n : Int))).length = n + 1 := by simp [rangeD]; omega
theorem kd_pure (kd : Kd) : kd.D.pure = true := by cases kd <;> rfl
theorem kind_k (K : K22 P) (hd : ds.length ≤ line) (hw : WM ds M) (hk : 2 ≤ k) : ∃ (kd : Kd) (M' : Mem), callAt P k 11 [.ref 2] M = some (kd.D, M') ∧ kd.ok ∧ Gm ds M M' := by
  obtain ⟨k, rfl⟩ : ∃ z, k = z + 1 := ⟨k - 1, by omega⟩
  have l2 : (2 : Nat) ≤ line := by decide
  have l4 : (4 : Nat) ≤ line := by decide
  obtain ⟨c, M1, e1, b1, g1, _⟩ := next_W (k := k) K.h8 hd hw (m := 3) (by decide) (by omega)
  rw [call_eq K.h11 rfl]
  by_cases c0 : c = 0
  · have hc : ((c : Int) = 0) = True := eq_true (by omega)
    obtain ⟨c2, M2, e2, b2, g2, _⟩ := next_W (k := k) K.h8 hd g1.w (m := 5) (by decide) (by omega)
    obtain ⟨X, f, g⟩ := fin_W (d := (Kd.rests (1 + (c2 : Int))).D) rfl hw (g1.trans g2)
    refine ⟨.rests (1 + (c2 : Int)), X, ?_, ⟨by omega, by omega⟩, g⟩
    simp [b11, e1, c0, e2, l2, W22.c_rests]
    exact f
  · have hc : ((c : Int) = 0) = False := eq_false (by omega)
    obtain ⟨c2, M2, e2, b2, g2, _⟩ := next_W (k := k) K.h8 hd g1.w (m := 6) (by decide) (by omega)
    obtain ⟨c3, M3, e3, b3, g3, _⟩ := next_W (k := k) K.h8 hd g2.w (m := 6) (by decide) (by omega)
    obtain ⟨c4, M4, e4, b4, g4, _⟩ := next_W (k := k) K.h8 hd g3.w (m := 5) (by decide) (by omega)
    obtain ⟨X, f, g⟩ := fin_W (d := (Kd.even (1 + (c2 : Int)) (1 + (c3 : Int)) ((c4 : Int) - 2)).D) rfl hw (g1.trans (g2.trans (g3.trans g4)))
    refine ⟨.even (1 + (c2 : Int)) (1 + (c3 : Int)) ((c4 : Int) - 2), X, ?_, ⟨by omega, by omega, by omega⟩, g⟩
    simp [b11, e1, c0, e2, e3, e4, l4, W22.c_even]
    exact f
theorem pick_fold (K : K22 P) (hd : ds.length ≤ line) (hw : WM ds M) (hk : 2 ≤ k) : ∃ (f : W22) (M' : Mem), callAt P k 9 [.ref 2, .ref M.length] (M ++ [MO.lst [W22.count.W, W22.sum.W, W22.least.W, W22.most.W]]) = some (f.W, M') ∧ f.fold ∧ Gm ds M M' := by
  obtain ⟨x, M1, e, hx, g⟩ := pick_W (k := k) K.h9 K.h8 hd hw (xs := [W22.count.W, W22.sum.W, W22.least.W, W22.most.W]) (by simp) (by simp [W22.W, D.pure]) (by omega)
  simp at hx
  rcases hx with rfl | rfl | rfl | rfl
  · exact ⟨.count, M1, e, by simp [W22.fold], g⟩
  · exact ⟨.sum, M1, e, by simp [W22.fold], g⟩
  · exact ⟨.least, M1, e, by simp [W22.fold], g⟩
  · exact ⟨.most, M1, e, by simp [W22.fold], g⟩
theorem law22_turn (K : K22 P) (hd : ds.length ≤ line) (hw : WM ds M) {d : D} {a0 z v3 v4 v5 v6 v7 v8 v9 v10 v11 : Option D} :
    WP (forBody (cfA P 39) (.nm 2) bT d [a0, some (.ref 2), z, v3, v4, v5, v6, v7, v8, v9, v10, v11] M) fun r M' =>
      r.1 = .nx ∧ (∃ z v3 v4 v5 v6 v7 v8 v9 v10 v11, r.2 = [a0, some (.ref 2), z, v3, v4, v5, v6, v7, v8, v9, v10, v11]) ∧ WM ds M' := by
  refine WP.hide fun Q hQ => ?_
  have hline : line = 16000000 := rfl
  have l4 : (4 : Nat) ≤ line := by decide
  have l2 : (2 : Nat) ≤ line := by decide
  obtain ⟨kd, M1, e1, ok, g1⟩ := kind_k (k := 39) K hd hw (by omega)
  obtain ⟨f, M2, e2, hf, g2⟩ := pick_fold (k := 39) K hd g1.w (by omega)
  obtain ⟨c3, M3, e3, b3, g3, _⟩ := next_W (k := 39) K.h8 hd g2.w (m := 30) (by decide) (by omega)
  obtain ⟨c4, M4, e4, b4, g4, _⟩ := next_W (k := 39) K.h8 hd g3.w (m := 6) (by decide) (by omega)
  obtain ⟨c5, M5, e5, b5, g5, _⟩ := next_W (k := 39) K.h8 hd g4.w (m := 6) (by decide) (by omega)
  obtain ⟨c6, M6, e6, b6, g6, _⟩ := next_W (k := 39) K.h8 hd g5.w (m := 5) (by decide) (by omega)
  have w6 := g6.w
  have e7 := even_k (k := 39) (M := M6) (size := 1 + (c4 : Int)) (step := 1 + (c5 : Int)) (first := (c6 : Int) - 2) (t := (c3 : Int) - 12) K (by omega) (by omega) (by omega) (by omega) (by omega)
  have e8 := leven_k (k := 39) (M := M6) (size := 1 + (c4 : Int)) (step := 1 + (c5 : Int)) (first := (c6 : Int) - 2) (t := (c3 : Int) - 12) K (by omega) (by omega) (by omega) (by omega) (by omega)
  have el : (evenB (1 + (c4 : Int)) (1 + (c5 : Int)) ((c6 : Int) - 2) ((c3 : Int) - 12)).length ≤ 100 := by
    have := evL_len (size := 1 + (c4 : Int)) (step := 1 + (c5 : Int)) (first := (c6 : Int) - 2) (t := (c3 : Int) - 12) (by omega)
    unfold evL at this
    rw [List.length_map] at this
    omega
  rw [show (evenB (1 + (c4 : Int)) (1 + (c5 : Int)) ((c6 : Int) - 2) ((c3 : Int) - 12)).map (wprD (1 + (c4 : Int))) = ((evenB (1 + (c4 : Int)) (1 + (c5 : Int)) ((c6 : Int) - 2) ((c3 : Int) - 12)).map fun b => (b, b + (1 + (c4 : Int)))).map prP by rw [List.map_map]; rfl] at e8
  generalize hE : (evenB (1 + (c4 : Int)) (1 + (c5 : Int)) ((c6 : Int) - 2) ((c3 : Int) - 12)).map (fun b => (b, b + (1 + (c4 : Int)))) = E at e7 e8
  have hEl : E.length ≤ 100 := by rw [← hE]; simpa using el
  rw [show en E = .tup (E.map prP) from rfl] at e7
  have ali : ∀ (E : List (Int × Int)) (h : E.length ≤ 100) (M : Mem), callAt P 39 10 [.tup (E.map prP), .tup (E.map prP)] M = some (.bl true, M) := fun E h M => alike_en (k := 39) (M := M) (α := List (Int × Int)) K.h10 E ⟨Nat.le_trans h (by decide), fun a _ => ⟨trivial, trivial⟩⟩ (by decide)
  have e9 := ali E hEl (M6 ++ [MO.lst (E.map prP)])
  simp [Kd.D] at e7 e8
  simp [bT, t1, W22.c_count, W22.c_sum, W22.c_least, W22.c_most, e1, l4, e2]
  simp [t2, e3, t3, W22.c_even, e4, e5, e6, l4]
  simp [t4, e7, e8, e9]
  -- times
  have w7 := w6.app [MO.lst (E.map prP)]
  generalize M6 ++ [MO.lst (E.map prP)] = M7 at w7 ⊢
  obtain ⟨c8, M8, e10, b8, g8, _⟩ := next_W (k := 39) K.h8 hd w7 (m := 7) (by decide) (by omega)
  have ok8 : rOk 0 (c8 : Int) := rOk_of (by omega)
  obtain ⟨ts, M9, e11, hl11, _, g9⟩ := w_lcd (ds := ds) (body := lcBody (cfA P 39) b18_l1 (.nm 8) (.cst (.bl true)) [8] [a0, some (.ref 2), some d, some kd.D, some f.W, some (.int ((c3 : Int) - 12)), some (.tup [W22.even.W, .int (1 + (c4 : Int)), .int (1 + (c5 : Int)), .int ((c6 : Int) - 2)]), v7, v8, v9, v10, v11]) D.int (fun _ => True) (rangeD 0 (c8 : Int)) g8.w (fun x Mx wx => by
    obtain ⟨y, My, ey, _, gy, _⟩ := next_W (k := 39) K.h8 hd wx (m := 20) (by decide) (by omega)
    exact ⟨(y : Int) - 5, My, by simp [b18_l1, ey], trivial, gy⟩)
  rw [rangeN] at hl11
  simp [t5, e10, ok8, e11]
  -- gap
  obtain ⟨c12, M12, e12, b12, g12, _⟩ := next_W (k := 39) K.h8 hd g9.w (m := 5) (by decide) (by omega)
  have e13 := rests_k (k := 39) (M := M12) (gap := 1 + (c12 : Int)) (x := .tup (ts.map D.int)) (l := ts) K (fun X => rfl) (by omega) (by omega)
  obtain ⟨q14, X14, e14, e15, _⟩ := lrests_k (k := 39) (M := M12) (gap := 1 + (c12 : Int)) (x := .tup (ts.map D.int)) (l := ts) K (fun X => rfl) (by omega) (by omega)
  have hrl := restW_len (1 + (c12 : Int)) ts
  rw [show en (restW (1 + (c12 : Int)) ts) = .tup ((restW (1 + (c12 : Int)) ts).map prP) from rfl] at e13
  have e16 := ali (restW (1 + (c12 : Int)) ts) (by omega) (M12 ++ X14)
  simp [t6, e12, t7, e13, e14, e15, e16]
  have w16 := g12.w.app X14
  generalize M12 ++ X14 = M16 at w16 ⊢
  -- rows
  obtain ⟨c17, M17, e17, b17, g17, _⟩ := next_W (k := 39) K.h8 hd w16 (m := 8) (by decide) (by omega)
  have ok17 : rOk 0 (c17 : Int) := rOk_of (by omega)
  obtain ⟨rows, M18, e18, hl18, hr18, g18⟩ := w_lcd (ds := ds) (body := lcBody (cfA P 39) b18_l2 (.nm 8) (.cst (.bl true)) [8] [a0, some (.ref 2), some d, some kd.D, some f.W, some (.int ((c3 : Int) - 12)), some (.tup [W22.even.W, .int (1 + (c4 : Int)), .int (1 + (c5 : Int)), .int ((c6 : Int) - 2)]), some (.tup (ts.map D.int)), v8, some (.int (1 + (c12 : Int))), v10, v11]) rwD (fun r => -100 ≤ r.1 ∧ r.1 ≤ 100) (rangeD 0 (c17 : Int)) g17.w (fun x Mx wx => by
    obtain ⟨y, My, ey, by1, gy, _⟩ := next_W (k := 39) K.h8 hd wx (m := 15) (by decide) (by omega)
    obtain ⟨y2, My2, ey2, _, gy2, _⟩ := next_W (k := 39) K.h8 hd gy.w (m := 3) (by decide) (by omega)
    obtain ⟨y3, My3, ey3, _, gy3, _⟩ := next_W (k := 39) K.h8 hd gy2.w (m := 7) (by decide) (by omega)
    exact ⟨((y : Int) - 4, ((y2 : Int), (y3 : Int) - 3)), My3, by simp [b18_l2, ey, ey2, ey3, l2, rwD], by dsimp only; omega, gy.trans (gy2.trans gy3)⟩)
  rw [rangeN] at hl18
  have hR : rOkR rows := ⟨by omega, hr18⟩
  have e19 := windowed_k (k := 39) (M := M18) K ok hf hR (by omega)
  have e20 := lwindowed_k (k := 39) (M := M18) K ok hf hR (by omega)
  have hpl : (progK kd f rows).length ≤ 1000 ∧ ∀ a ∈ progK kd f rows, a.length ≤ 10 := by
    rw [prog_law ok, List.length_map, (srtR_perm _).length_eq]
    refine ⟨?_, fun a ha => ?_⟩
    · have := foldN_len ok hR.1 rows []
      have := hR.1
      unfold spansK
      simp at *
      omega
    · obtain ⟨s, hs, rfl⟩ := List.mem_map.mp ha
      have := spans_w ok s ((srtR_perm _).mem_iff.mp hs)
      simp [this]
  have e21 := alike_en (k := 39) (M := M18) (α := List (List Int)) K.h10 (progK kd f rows) ⟨by omega, fun a ha => ⟨by have := hpl.2 a ha; omega, fun _ _ => trivial⟩⟩ (by decide)
  generalize en (progK kd f rows) = R at e19 e20 e21
  simp [t8, e17, ok17, e18, t9, e19, e20, e21]
  -- folds
  obtain ⟨c22, M22, e22, b22, g22, _⟩ := next_W (k := 39) K.h8 hd g18.w (m := 5) (by decide) (by omega)
  have ok22 : rOk 0 (1 + (c22 : Int)) := rOk_of (by omega)
  obtain ⟨ns, M23, e23, hl23, _, g23⟩ := w_lcd (ds := ds) (body := lcBody (cfA P 39) b18_l3 (.nm 8) (.cst (.bl true)) [8] [a0, some (.ref 2), some d, some kd.D, some f.W, some (.int ((c3 : Int) - 12)), some (.tup [W22.even.W, .int (1 + (c4 : Int)), .int (1 + (c5 : Int)), .int ((c6 : Int) - 2)]), some (.tup (ts.map D.int)), v8, some (.int (1 + (c12 : Int))), some (.tup (rows.map rwD)), v11]) D.int (fun _ => True) (rangeD 0 (1 + (c22 : Int))) g22.w (fun x Mx wx => by
    obtain ⟨y, My, ey, _, gy, _⟩ := next_W (k := 39) K.h8 hd wx (m := 9) (by decide) (by omega)
    exact ⟨(y : Int) - 4, My, by simp [b18_l3, ey], trivial, gy⟩)
  rw [rangeN1] at hl23
  have hns : ns ≠ [] := fun e => by rw [e] at hl23; simp at hl23
  have e24 := folded_k (k := 39) (M := M23 ++ [MO.lst (ns.map D.int)]) (q := M23.length) K hf (by simp) hns (by omega)
  have e25 := lfold_k (k := 39) (M := M23 ++ [MO.lst (ns.map D.int)]) (q := M23.length) K hf (by simp) hns (by omega)
  have e26 : callAt P 39 10 [.int (foldV f ns), .int (foldV f ns)] (M23 ++ [MO.lst (ns.map D.int)]) = some (.bl true, M23 ++ [MO.lst (ns.map D.int)]) := alike_en (α := Int) K.h10 _ trivial (by decide)
  simp [t10, e22, ok22, e23, t11, e24, e25, e26]
  exact WP.fin hQ ⟨rfl, ⟨_, _, _, _, _, _, _, _, _, _, rfl⟩, g23.w.app _⟩
theorem law22 (K : K22 P) (ns : List Int) (hn : ns.length ≤ 63) : ∃ M, callAt P 40 18 [.fz (ns.map .int)] [] = some (.bl true, M) := by
  have hline : line = 16000000 := rfl
  refine law_gen (N := 10) (many := 600) (turns := 9) K.h7 K.h18 (by omega) (by omega) (fun s v => ∃ z v3 v4 v5 v6 v7 v8 v9 v10 v11, v = [some s, some (.ref 2), z, v3, v4, v5, v6, v7, v8, v9, v10, v11]) (fun s => ⟨_, _, _, _, _, _, _, _, _, _, rfl⟩) (fun s ds M d v hds hw hv => ?_) ns hn
  obtain ⟨z, v3, v4, v5, v6, v7, v8, v9, v10, v11, rfl⟩ := hv
  obtain ⟨⟨fl, v⟩, M', e, h1, h2, h3⟩ := law22_turn K (ds := ds) (M := M) (by omega) hw (d := d) (a0 := some s) (z := z) (v3 := v3) (v4 := v4) (v5 := v5) (v6 := v6) (v7 := v7) (v8 := v8) (v9 := v9) (v10 := v10) (v11 := v11)
  have h1 : fl = _ := h1
  subst h1
  exact ⟨v, M', e, h2, h3⟩
end
end Ev
namespace Ev
open PySem B50
section
variable [Tab] {P : List FD} {i k n q w : Nat} {cf : Cf} {v : Env} {M : Mem} {A B : List Rc} {bs : List Bd} {ds : List Int}
theorem wm_setB {n : Nat} (h : WM ds M) (hn : 2 < n) (o : MO) : WM ds (M.set n o) := by
  obtain ⟨m, h1, h2⟩ := h
  exact ⟨m, by rw [List.getElem?_set_ne (by omega)]; exact h1, by rw [List.getElem?_set_ne (by omega)]; exact h2⟩
theorem bond_k (K : K50 P) (hd : ds.length ≤ line) (hw : WM ds M) (hk : 12 ≤ k) : ∃ (b : Bd) (M' : Mem), callAt P k 21 [.ref 2] M = some (b.D, M') ∧ b.ok ∧ Gm ds M M' := by
  obtain ⟨k, rfl⟩ : ∃ z, k = z + 1 := ⟨k - 1, by omega⟩
  have l0 : (0 : Nat) ≤ line := by decide
  have l1 : (1 : Nat) ≤ line := by decide
  have l2 : (2 : Nat) ≤ line := by decide
  have l3 : (3 : Nat) ≤ line := by decide
  have l4 : (4 : Nat) ≤ line := by decide
  have l5 : (5 : Nat) ≤ line := by decide
  obtain ⟨c, M1, e1, b1, g1, _⟩ := next_W (k := k) K.h8 hd hw (m := 5) (by decide) (by omega)
  rw [call_eq K.h21 rfl]
  by_cases c0 : c = 0
  · subst c0
    obtain ⟨x, M2, e2, hx, g2⟩ := pick_W (k := k) K.h9 K.h8 hd g1.w (xs := [.tup [.int 0], .tup [.int 1], .tup [.int 0, .int 1], .tup []]) (by simp) (by simp [D.pure, D.pures]) (by omega)
    have hp : ∃ pl, x = pD pl ∧ plOk 2 pl := by
      simp at hx
      rcases hx with rfl | rfl | rfl | rfl
      · exact ⟨[0], rfl, by simp [plOk]⟩
      · exact ⟨[1], rfl, by simp [plOk]⟩
      · exact ⟨[0, 1], rfl, by simp [plOk]⟩
      · exact ⟨[], rfl, by simp [plOk]⟩
    obtain ⟨pl, rfl, hpl⟩ := hp
    obtain ⟨X, f, g⟩ := fin_W (d := (Bd.key .ta pl).D) (bd_pure _) hw (g1.trans g2)
    refine ⟨.key .ta pl, X, ?_, ⟨.inl rfl, hpl⟩, g⟩
    simp [b21, e1, e2, l0, l1, l2, l3, l4, W50.c_key, W50.c_ta]
    exact f
  · by_cases c1 : c = 1
    · subst c1
      obtain ⟨x, M2, e2, hx, g2⟩ := pick_W (k := k) K.h9 K.h8 hd g1.w (xs := [.tup [.int 0], .tup [.int 2, .int 1], .tup [.int 1]]) (by simp) (by simp [D.pure, D.pures]) (by omega)
      have hp : ∃ pl, x = pD pl ∧ plOk 3 pl := by
        simp at hx
        rcases hx with rfl | rfl | rfl
        · exact ⟨[0], rfl, by simp [plOk]⟩
        · exact ⟨[2, 1], rfl, by simp [plOk]⟩
        · exact ⟨[1], rfl, by simp [plOk]⟩
      obtain ⟨pl, rfl, hpl⟩ := hp
      obtain ⟨c3, M3, e3, b3, g3, _⟩ := next_W (k := k) K.h8 hd g2.w (m := 3) (by decide) (by omega)
      obtain ⟨X, f, g⟩ := fin_W (d := (Bd.most .tb pl (1 + (c3 : Int))).D) (bd_pure _) hw (g1.trans (g2.trans g3))
      refine ⟨.most .tb pl (1 + (c3 : Int)), X, ?_, ⟨.inr rfl, hpl⟩, g⟩
      simp [b21, e1, e2, e3, l0, l1, l2, l3, l4, W50.c_most, W50.c_tb]
      exact f
    · by_cases c2 : c = 2
      · subst c2
        obtain ⟨x, M2, e2, hx, g2⟩ := pick_W (k := k) K.h9 K.h8 hd g1.w (xs := [(Bd.ref .ta [0] .tb [1]).D, (Bd.ref .tb [0, 2] .ta [0, 1]).D, (Bd.ref .ta [1] .ta [0]).D]) (by simp) (by simp [bd_pure]) (by omega)
        have hp : ∃ b : Bd, x = b.D ∧ b.ok := by
          simp at hx
          rcases hx with rfl | rfl | rfl
          · exact ⟨_, rfl, .inl rfl, by simp [plOk, wid], .inr rfl, by simp [plOk, wid]⟩
          · exact ⟨_, rfl, .inr rfl, by simp [plOk, wid], .inl rfl, by simp [plOk, wid]⟩
          · exact ⟨_, rfl, .inl rfl, by simp [plOk, wid], .inl rfl, by simp [plOk, wid]⟩
        obtain ⟨b, rfl, hb⟩ := hp
        obtain ⟨X, f, g⟩ := fin_W (d := b.D) (bd_pure _) hw (g1.trans g2)
        refine ⟨b, X, ?_, hb, g⟩
        generalize b.D = bD at e2 f ⊢
        simp [Bd.D, pD] at e2
        simp [b21, e1, e2, l0, l1, l2, l3, l4, l5, W50.c_ref, W50.c_ta, W50.c_tb]
        exact f
      · have h0 : ((c : Int) = 0) = False := eq_false (by omega)
        have h1 : ((c : Int) = 1) = False := eq_false (by omega)
        have h2 : ((c : Int) = 2) = False := eq_false (by omega)
        by_cases c3 : c = 3
        · subst c3
          obtain ⟨t, M2, e2, ht, g2⟩ := test1_5 (w := 2) (k := k) K hd g1.w (by omega) (by omega)
          have e2 : callAt P k 20 [.ref 2, .int 2, .int 1] M1 = some (t.D, M2) := e2
          obtain ⟨X, f, g⟩ := fin_W (d := (Bd.all .ta t).D) (bd_pure _) hw (g1.trans g2)
          refine ⟨.all .ta t, X, ?_, ⟨.inl rfl, ht⟩, g⟩
          simp [b21, e1, e2, l3, W50.c_all, W50.c_ta]
          exact f
        · have h3 : ((c : Int) = 3) = False := eq_false (by omega)
          obtain ⟨t, M2, e2, ht, g2⟩ := test1_5 (w := 3) (k := k) K hd g1.w (by omega) (by omega)
          have e2 : callAt P k 20 [.ref 2, .int 3, .int 1] M1 = some (t.D, M2) := e2
          obtain ⟨X, f, g⟩ := fin_W (d := (Bd.all .tb t).D) (bd_pure _) hw (g1.trans g2)
          refine ⟨.all .tb t, X, ?_, ⟨.inr rfl, ht⟩, g⟩
          simp [b21, e1, h0, h1, h2, h3, c0, e2, l3, W50.c_all, W50.c_tb]
          exact f
/-! .. tables that are drawn -/
theorem ltable_k (K : K50 P) {T : List Rc} (hT : ∀ p ∈ T, RowOk w p.1) (h0 : 0 < w) (hq : M[q]? = some (.dic true (T.map rcE))) (hk : 1 ≤ k) :
    ∃ U : List Rc, callAt P k 13 [.ref q] M = some (tabD U, M) ∧ U.length ≤ T.length ∧ ∀ p ∈ U, RowOk w p.1 := by
  obtain ⟨k, rfl⟩ : ∃ z, k = z + 1 := ⟨k - 1, by omega⟩
  have l2 : (2 : Nat) ≤ line := by decide
  have hr : ∀ r ∈ T.map (·.1), r.length = w := fun r hr => by
    obtain ⟨p, hp, rfl⟩ := List.mem_map.mp hr
    exact (hT p hp).l
  have es := sorted_rows (M := M) (x := .v (.ref q)) (l := T.map (·.1)) (n := w) (by rw [drawsOf_r, hq, rDraws_dic, List.map_map, List.map_map]; rfl) hr h0
  have hm : ∀ r ∈ srtR (T.map (·.1)), ∃ p ∈ T, p.1 = r := fun r hr => List.mem_map.mp ((srtR_perm _).mem_iff.mp hr)
  refine ⟨((srtR (T.map (·.1))).filter fun r => !decide (getR T r = some 0)).map fun r => (r, (getR T r).getD 0), ?_, ?_, fun p hp => ?_⟩
  · rw [call_eq K.h13 rfl]
    simp [b13, es]
    rw [w_lcf tI0 (fun r => rcD (r, (getR T r).getD 0)) (fun r => !decide (getR T r = some 0)) rfl (fun r hr => by
      obtain ⟨p, hp, rfl⟩ := hm r hr
      obtain ⟨z, hz⟩ := getR_mem hp
      by_cases c : z = 0
      · subst c
        simp [hq, key_tI0, dget_R, hz]
      · simp [b13_l1, hq, key_tI0, dget_R, hz, c, l2, rcD])]
    simp [fin_self]
    show D.tup _ = D.tup _
    rw [List.map_map]
    rfl
  · rw [List.length_map]
    refine Nat.le_trans (List.length_filter_le _ _) ?_
    rw [(srtR_perm _).length_eq, List.length_map]
    exact Nat.le_refl _
  · obtain ⟨r, h1, rfl⟩ := List.mem_map.mp hp
    obtain ⟨p, h2, rfl⟩ := hm r (List.mem_filter.mp h1).1
    exact hT p h2
theorem some_k (K : K50 P) (hd : ds.length ≤ line) (hw : WM ds M) (h0 : 0 < w) (hw3 : w ≤ 3) (hk : 4 ≤ k) : ∃ (T : List Rc) (M' : Mem), callAt P k 15 [.ref 2, .int (w : Int), .int 4] M = some (tabD T, M') ∧ T.length ≤ 4 ∧ (∀ p ∈ T, RowOk w p.1) ∧ Gm ds M M' := by
  obtain ⟨k, rfl⟩ : ∃ z, k = z + 1 := ⟨k - 1, by omega⟩
  have hline : line = 16000000 := rfl
  have l6 : (6 : Nat) ≤ line := by decide
  have hl2 := wm2 hw
  obtain ⟨c, M1, e1, b1, g1, _⟩ := next_W (k := k) K.h8 hd (hw.app [MO.dic true []]) (m := 5) (by decide) (by omega)
  have okc : rOk 0 (c : Int) := rOk_of (by omega)
  have hq1 : M1[M.length]? = some (.dic true []) := g1.at (by omega) (at_here _ _)
  have key : WP (callAt P (k + 1) 15 [.ref 2, .int (w : Int), .int 4] M) fun d M' => ∃ T, d = tabD T ∧ T.length ≤ 4 ∧ (∀ p ∈ T, RowOk w p.1) ∧ Gm ds M M' := by
    rw [call_eq K.h15 rfl]
    refine WP.hide fun Q0 hQ0 => ?_
    simp [b15, e1, okc]
    try simp only [bnd_bnd]
    rw [rangeZ]
    refine WP.bnd (w_forW (fun j : Nat => D.int (j : Int)) (fun dn v M' => ∃ (T : List Rc) (o4 o5 : Option D), v = [some (.ref 2), some (.int (w : Int)), some (.int 4), some (.ref M.length), o4, o5, none] ∧ Gm ds M M' ∧ M'[M.length]? = some (.dic true (T.map rcE)) ∧ T.length ≤ dn.length ∧ ∀ p ∈ T, RowOk w p.1) (fun _ _ _ _ => rfl) (List.range c) ?_ ?_) ?_
    · exact ⟨[], _, _, rfl, (Gm.app hw _).trans g1, hq1, Nat.le_refl _, fun p h => nomatch h⟩
    · rintro dn j r v M' hdn ⟨T, o4, o5, rfl, g, hq, hT, hr⟩
      have hdl : dn.length < c := by
        have := congrArg List.length hdn
        simp at this
        omega
      have okw : rOk 0 (w : Int) := rOk_of (by omega)
      obtain ⟨xs, M2, e2, hx1, hx2, g2⟩ := w_lcd (ds := ds) (body := lcBody (cfA P k) (.call 8 (.cons (.var 0) (.cons (.cst (.int 3)) .nil))) (.nm 6) (.cst (.bl true)) [6] [some (.ref 2), some (.int (w : Int)), some (.int 4), some (.ref M.length), some (.int (j : Int)), o5, none]) D.int (fun z => -10 ≤ z ∧ z ≤ 10) (rangeD 0 (w : Int)) g.w (fun x Mx wx => by
        obtain ⟨y, My, ey, by1, gy, _⟩ := next_W (k := k) K.h8 hd wx (m := 3) (by decide) (by omega)
        exact ⟨(y : Int), My, by simp [ey], ⟨by omega, by omega⟩, gy⟩)
      rw [rangeN] at hx1
      obtain ⟨x, M3, e3, hx3, g3⟩ := pick_W (k := k) K.h9 K.h8 hd g2.w (xs := [.int 1, .int 1, .int 1, .int 2, .int (-1), .int 3]) (by simp) (by simp [D.pure]) (by omega)
      have hz : ∃ z, x = .int z := by
        simp at hx3
        rcases hx3 with rfl | rfl | rfl | rfl <;> exact ⟨_, rfl⟩
      obtain ⟨z, rfl⟩ := hz
      have g4 := g.trans (g2.trans g3)
      have hq4 : M3[M.length]? = some (.dic true (T.map rcE)) := (g2.trans g3).at (by omega) hq
      have hTl : T.length < line := by omega
      have hk' : isKey true (D.tup (xs.map D.int)) = true := key_tI0 xs
      have hdp : dput (T.map rcE) (D.tup (xs.map D.int)) (.int z) = (putR T xs z).map rcE := dput_R T xs z
      refine WP.hide fun Q hQ => ?_
      simp [b15_f1, okw, e2, l6, e3, hq4, hk', hTl, hdp]
      refine WP.fin hQ ⟨rfl, putR T xs z, _, _, rfl, ?_, ?_, ?_, fun p hp => ?_⟩
      · have w4 := wm_setB (n := M.length) g4.w (by omega) (MO.dic true ((putR T xs z).map rcE))
        exact ⟨w4, by rw [List.length_set]; exact g4.l, fun j h1 h2 => by
          rw [List.getElem?_set_ne (by omega)]
          exact g4.s j h1 h2⟩
      · rw [set_selfW, hq4]
        rfl
      · have := putR_len T xs z
        simp
        omega
      · rcases putR_mem hp with ⟨q, h1, h2⟩ | h1
        · rw [← h2]; exact hr q h1
        · rw [h1]; exact ⟨hx1, hx2⟩
    · rintro ⟨fl, v⟩ M' ⟨_, e, T, o4, o5, rfl, g, hq, hT, hr⟩
      cases e
      obtain ⟨U, e2, hU, hU2⟩ := ltable_k (k := k) (M := M') K hr h0 hq (by omega)
      obtain ⟨X, f, gX⟩ := fin_W (d := tabD U) (En.pure U) hw g
      simp [e2, f]
      have hT : T.length ≤ c := by simpa using hT
      exact WP.fin hQ0 ⟨U, rfl, by omega, hU2, gX⟩
  obtain ⟨d, M', e, T, rfl, h1, h2, g⟩ := key
  exact ⟨T, M', e, h1, h2, g⟩
end
end Ev
namespace Ev
open PySem B50
section
variable [Tab] {P : List FD} {i k n q w : Nat} {cf : Cf} {v : Env} {M : Mem} {A B : List Rc} {bs : List Bd} {ds : List Int}
theorem w_lcdm {α β : Type} {body : D → Mem → Option (Option D × Mem)} (g : β → D) (f : α → D) (Pr : β → α → Prop) :
    ∀ (l : List β) {M : Mem}, WM ds M → (∀ b ∈ l, ∀ M1, WM ds M1 → ∃ x M2, body (g b) M1 = some (some (f x), M2) ∧ Pr b x ∧ Gm ds M1 M2) → ∃ (xs : List α) (M2 : Mem), lcLoop body none (l.map g) M = some (xs.map f, M2) ∧ xs.length = l.length ∧ (∀ x ∈ xs, ∃ b ∈ l, Pr b x) ∧ Gm ds M M2
  | [], M, hw, hb => ⟨[], M, rfl, rfl, (fun x h => nomatch h), ⟨hw, Nat.le_refl _, fun _ _ _ => rfl⟩⟩
  | d :: l, M, hw, hb => by
    obtain ⟨x, M1, e1, p1, g1⟩ := hb d List.mem_cons_self M hw
    obtain ⟨xs, M2, e2, l2, p2, g2⟩ := w_lcdm g f Pr l g1.w (fun b h => hb b (List.mem_cons_of_mem _ h))
    refine ⟨x :: xs, M2, ?_, by simp [l2], fun y hy => ?_, g1.trans g2⟩
    · rw [List.map_cons, lcLoop, if_pos still_none, e1, bnd_some, e2, bnd_some]
      rfl
    · rcases List.mem_cons.mp hy with rfl | hy
      · exact ⟨d, List.mem_cons_self, p1⟩
      · obtain ⟨b, h1, h2⟩ := p2 y hy
        exact ⟨b, List.mem_cons_of_mem _ h1, h2⟩
theorem w_two {b : D → Env → Mem → Option ((Fl × Env) × Mem)} {x y : D} {R S : Env → Mem → Prop} (h1 : WP (b x v M) fun r M' => r.1 = .nx ∧ R r.2 M') (h2 : ∀ v M, R v M → WP (b y v M) fun r M' => r.1 = .nx ∧ S r.2 M') :
    WP (forL b none [x, y] v M) fun r M' => ∃ v', r = (.nx, v') ∧ S v' M' := by
  obtain ⟨⟨fl, v1⟩, M1, e1, q1, r1⟩ := h1
  have q1 : fl = _ := q1
  subst q1
  obtain ⟨⟨fl, v2⟩, M2, e2, q2, r2⟩ := h2 v1 M1 r1
  have q2 : fl = _ := q2
  subst q2
  exact ⟨(.nx, v2), M2, by rw [forL, if_pos still_none, e1, bnd_some]; show forL b none [y] v1 M1 = _; rw [forL, if_pos still_none, e2, bnd_some]; show forL b none [] v2 M2 = _; rw [forL, if_pos still_none], v2, rfl, r2⟩
theorem tb_step (K : K50 P) (hd : ds.length ≤ line) (hw : WM ds M) {qd : Nat} (hqd : 2 < qd) {kvs : List (D × D)} (hq : M[qd]? = some (.dic false kvs)) (hl : kvs.length ≤ 10) {t : W50} (h0 : 0 < w) (h3 : w ≤ 3) {a0 z d3 o4 o6 o7 o8 o9 o10 : Option D} :
    WP (forBody (cfA P 39) (.tp [.nm 6, .nm 7]) b24_f2 (.tup [t.W, .int (w : Int)]) [a0, some (.ref 2), z, d3, o4, some (.ref qd), o6, o7, o8, o9, o10] M) fun r M' =>
      r.1 = .nx ∧ ∃ o6 o7 o8, ∃ T : List Rc, r.2 = [a0, some (.ref 2), z, d3, o4, some (.ref qd), o6, o7, o8, o9, o10] ∧ WM ds M' ∧ M'[qd]? = some (.dic false (dput kvs t.W (tabD T))) ∧ T.length ≤ 4 ∧ ∀ p ∈ T, RowOk w p.1 := by
  refine WP.hide fun Q hQ => ?_
  have hline : line = 16000000 := rfl
  have l2 : (2 : Nat) ≤ line := by decide
  have hkl : kvs.length < line := by omega
  obtain ⟨T, M1, e1, hT1, hT2, g1⟩ := some_k (k := 39) K hd hw h0 h3 (by omega)
  obtain ⟨U, M2, e2, hU1, hU2, g2⟩ := w_lcdm (ds := ds) (body := lcBody (cfA P 39) b24_l1 (.tp [.nm 9, .nm 10]) (.cst (.bl true)) [9, 10] [a0, some (.ref 2), z, d3, o4, some (.ref qd), some t.W, some (.int (w : Int)), some (.tup (T.map rcD)), o9, o10]) rcD rcD (fun p x => x.1 = p.1) T g1.w (fun p hp Mx wx => by
    by_cases c : 0 < p.2
    · obtain ⟨y, My, ey, by1, gy, _⟩ := next_W (k := 39) K.h8 hd wx (m := 3) (by decide) (by omega)
      by_cases c2 : y = 0
      · subst c2
        exact ⟨(p.1, 1), My, by simp [b24_l1, rcD, c, ey, l2], rfl, gy⟩
      · have c2' : (0 : Int) < (y : Int) := by omega
        have c2'' : 0 < y := by omega
        exact ⟨p, My, by simp [b24_l1, rcD, c, ey, c2', c2'', l2], rfl, gy⟩
    · exact ⟨(p.1, 1), Mx, by simp [b24_l1, rcD, c, l2], rfl, ⟨wx, Nat.le_refl _, fun _ _ _ => rfl⟩⟩)
  have hq2 := (g1.trans g2).at (by omega) hq
  have hU : ∀ p ∈ U, RowOk w p.1 := fun p hp => by
    obtain ⟨b, h1, h2⟩ := hU2 p hp
    rw [h2]
    exact hT2 b h1
  simp [tabD] at e1
  simp [b24_f2, e1, e2, hq2, W50.key', hkl]
  refine WP.fin hQ ⟨rfl, _, _, _, U, rfl, wm_setB (g1.trans g2).w hqd _, ?_, by omega, hU⟩
  rw [set_selfW, hq2]
  rfl
theorem law50_turn (K : K50 P) (hd : ds.length ≤ line) (hw : WM ds M) {d : D} {a0 z v3 v4 v5 v6 v7 v8 v9 v10 : Option D} :
    WP (forBody (cfA P 39) (.nm 2) bT d [a0, some (.ref 2), z, v3, v4, v5, v6, v7, v8, v9, v10] M) fun r M' =>
      r.1 = .nx ∧ (∃ z v3 v4 v5 v6 v7 v8 v9 v10, r.2 = [a0, some (.ref 2), z, v3, v4, v5, v6, v7, v8, v9, v10]) ∧ WM ds M' := by
  refine WP.hide fun Q hQ => ?_
  have hline : line = 16000000 := rfl
  have l2 : (2 : Nat) ≤ line := by decide
  obtain ⟨c, M1, e1, b1, g1, _⟩ := next_W (k := 39) K.h8 hd hw (m := 4) (by decide) (by omega)
  have okc : rOk 0 (c : Int) := rOk_of (by omega)
  obtain ⟨bs, M2, e2, hb1, hb2, g2⟩ := w_lcd (ds := ds) (body := lcBody (cfA P 39) (.call 21 (.cons (.var 1) .nil)) (.nm 4) (.cst (.bl true)) [4] [a0, some (.ref 2), some d, v3, v4, v5, v6, v7, v8, v9, v10]) Bd.D Bd.ok (rangeD 0 (c : Int)) g1.w (fun x Mx wx => by
    obtain ⟨b, My, ey, hb, gy⟩ := bond_k (k := 39) K hd wx (by omega)
    exact ⟨b, My, by simp [ey], hb, gy⟩)
  rw [rangeN] at hb1
  have w2 := g2.w
  have hl2 := wm2 w2
  simp [bT, t1, e1, okc, e2, t2, t3, W50.c_ta, W50.c_tb, l2]
  try simp only [bnd_bnd]
  refine WP.bnd (w_two (R := fun v M' => ∃ o6 o7 o8, ∃ T : List Rc, v = [a0, some (.ref 2), some d, some (.tup (bs.map Bd.D)), v4, some (.ref M2.length), o6, o7, o8, v9, v10] ∧ WM ds M' ∧ M'[M2.length]? = some (.dic false (dput [] W50.ta.W (tabD T))) ∧ T.length ≤ 4 ∧ ∀ p ∈ T, RowOk 2 p.1)
    (S := fun v M' => ∃ o6 o7 o8, ∃ T U : List Rc, v = [a0, some (.ref 2), some d, some (.tup (bs.map Bd.D)), v4, some (.ref M2.length), o6, o7, o8, v9, v10] ∧ WM ds M' ∧ M'[M2.length]? = some (.dic false [(W50.ta.W, tabD T), (W50.tb.W, tabD U)]) ∧ TabOk 2 T ∧ TabOk 3 U) ?_ ?_) ?_
  · exact tb_step (w := 2) (t := .ta) K hd (w2.app [MO.dic false []]) (by omega) (at_here _ _) (by simp) (by omega) (by omega)
  · rintro v M' ⟨o6, o7, o8, T, rfl, wT, hq, hT1, hT2⟩
    have e0 : dput [] W50.ta.W (tabD T) = [(W50.ta.W, tabD T)] := rfl
    rw [e0] at hq
    refine WP.mono (tb_step (w := 3) (t := .tb) K hd wT (by omega) hq (by simp) (by omega) (by omega)) ?_
    rintro ⟨fl, v⟩ M'' ⟨h1, o6, o7, o8, U, h2, wU, hq2, hU1, hU2⟩
    refine ⟨h1, o6, o7, o8, T, U, h2, wU, ?_, ⟨by omega, hT2⟩, ⟨by omega, hU2⟩⟩
    rw [hq2]
    simp [dput, W50.inj]
  · rintro ⟨fl, v⟩ M' ⟨_, e, o6, o7, o8, A, B, rfl, wM, hq, hA, hB⟩
    cases e
    have e3 := first_k (k := 39) (M := M') (q := M2.length) K hb2 (by omega) hA hB hq (by omega)
    have e4 := lfirst_k (k := 39) (M := M') (q := M2.length) K hb2 (by omega) hA hB hq (by omega)
    have e5 := same_en (k := 39) (M := M') K.h11 (firstN A B bs) (first_small hA hB) (by decide)
    generalize en (firstN A B bs) = R at e3 e4 e5
    simp [t4, e3, e4, e5]
    exact WP.fin hQ ⟨rfl, ⟨_, _, _, _, _, _, _, _, _, rfl⟩, wM⟩
theorem law50 (K : K50 P) (ns : List Int) (hn : ns.length ≤ 63) : ∃ M, callAt P 40 24 [.fz (ns.map .int)] [] = some (.bl true, M) := by
  have hline : line = 16000000 := rfl
  refine law_gen (N := 9) (many := 600) (turns := 8) K.h7 K.h24 (by omega) (by omega) (fun s v => ∃ z v3 v4 v5 v6 v7 v8 v9 v10, v = [some s, some (.ref 2), z, v3, v4, v5, v6, v7, v8, v9, v10]) (fun s => ⟨_, _, _, _, _, _, _, _, _, rfl⟩) (fun s ds M d v hds hw hv => ?_) ns hn
  obtain ⟨z, v3, v4, v5, v6, v7, v8, v9, v10, rfl⟩ := hv
  obtain ⟨⟨fl, v⟩, M', e, h1, h2, h3⟩ := law50_turn K (ds := ds) (M := M) (by omega) hw (d := d) (a0 := some s) (z := z) (v3 := v3) (v4 := v4) (v5 := v5) (v6 := v6) (v7 := v7) (v8 := v8) (v9 := v9) (v10 := v10)
  have h1 : fl = _ := h1
  subst h1
  exact ⟨v, M', e, h2, h3⟩
end
end Ev
namespace Ev
open PySem PySem.W B33
section
variable [Tab] {P : List FD} {i k n q w : Nat} {cf : Cf} {v : Env} {M : Mem} {row : List Int} {pl : List Nat} {T U V : List Rc} {many : Nat} {ds : List Int}
@[simp] theorem isTyA_xt (t : Ty) (l : List D) : isTyA M t (.v (.xt l)) = some (isTy t (.xt l)) := rfl
theorem same_upT (h : P[i]? = some ⟨2, 3, bSame i⟩) {l : List D} (hl : l.length ≤ 1000000) (ih : ∀ z ∈ l, callAt P k i [z, z] M = some (.bl true, M)) : callAt P (k + 1) i [.tup l, .tup l] M = some (.bl true, M) := by
  rw [call_eq h rfl]
  have ok : rOk 0 (l.length : Int) := rOk_of (by omega)
  have hlc : lcLoop (lcBody (cfA P k) (.var 2) (.nm 2) (.not (.call i (.cons (.ix (.var 0) (.var 2)) (.cons (.ix (.var 1) (.var 2)) .nil)))) [2] [some (D.tup l), some (D.tup l), none]) none (rangeD 0 l.length) M = some ([], M) := by
    rw [lc_pure (fun _ => none) rfl fun e he => ?_]
    · simp
    · obtain ⟨z, rfl, h0, h1⟩ := rangeD_mem he
      have hz : z.toNat < l.length := by omega
      have e1 := atI_pos h0 hz
      simp [e1, ih _ (List.getElem_mem hz)]
  simp [bSame, ok, hlc, fin_self]
theorem same_upX (h : P[i]? = some ⟨2, 3, bSame i⟩) {l : List D} (hl : l.length ≤ 1000000) (ih : ∀ z ∈ l, callAt P k i [z, z] M = some (.bl true, M)) : callAt P (k + 1) i [.xt l, .xt l] M = some (.bl true, M) := by
  rw [call_eq h rfl]
  have ok : rOk 0 (l.length : Int) := rOk_of (by omega)
  have hlc : lcLoop (lcBody (cfA P k) (.var 2) (.nm 2) (.not (.call i (.cons (.ix (.var 0) (.var 2)) (.cons (.ix (.var 1) (.var 2)) .nil)))) [2] [some (D.xt l), some (D.xt l), none]) none (rangeD 0 l.length) M = some ([], M) := by
    rw [lc_pure (fun _ => none) rfl fun e he => ?_]
    · simp
    · obtain ⟨z, rfl, h0, h1⟩ := rangeD_mem he
      have hz : z.toNat < l.length := by omega
      have e1 := atI_pos h0 hz
      simp [e1, ih _ (List.getElem_mem hz)]
  simp [bSame, ok, hlc, fin_self, isTy]
theorem dicT1 (row : List Int) (z : Int) : kDic true [tI0 row, .int z] M = some (.v (.ref M.length), M ++ [.dic true [(tI0 row, .int z)]]) := by
  unfold kDic
  simp [pairUp, key_tI0, dmerge, dput]
theorem lplus_k (K : K33 P) {a b : Nat} (gU : Gd w a U) (gV : Gd w b V) (hab : a + b ≤ 900) (h0 : 0 < w) (hk : 2 ≤ k) :
    ∃ W, callAt P k 12 [tabX U, tabX V, .int 1] M = some (tabX W, M) ∧ Gd w (a + b) W := by
  obtain ⟨k, rfl⟩ : ∃ z, k = z + 1 := ⟨k - 1, by omega⟩
  have hline : line = 16000000 := rfl
  have g1 : Gd w a (U.foldl setR []) := by
    have : Gd w (0 + U.length) (U.foldl (fun T p => putR T p.1 ((fun _ p => p.2 : List Rc → Rc → Int) T p)) []) := fold_gd (fun _ p => p.2) U (n := 0) (T := []) ⟨List.nodup_nil, (fun p h => nomatch h), Nat.le_refl _⟩ gU.l
    exact ⟨this.nd, this.l, Nat.le_trans this.n (by have := gU.n; omega)⟩
  have g2 : Gd w (a + b) (V.foldl (addR 1) (U.foldl setR [])) := by
    have := fold_gd (fun T p => (getR T p.1).getD 0 + 1 * p.2) V g1 gV.l
    exact ⟨this.nd, this.l, Nat.le_trans this.n (by have := gV.n; omega)⟩
  have hbd : biA (.dict true) [.v (.xt (U.map rcD))] M = some (.v (.ref M.length), M ++ [.dic true ((U.foldl setR []).map rcE)]) := by
    have := bi_dictT_x (M := M) (fun p : Rc => p.1) (fun p => D.int p.2) U
    have hm := merge_R U []
    rw [List.map_nil] at hm
    rw [hm] at this
    exact this
  refine ⟨tabOf (V.foldl (addR 1) (U.foldl setR [])), ?_, tabOf_gd g2⟩
  have hS := g1.n
  generalize U.foldl setR [] = S at hbd g2 hS
  rw [call_eq K.h12 rfl]
  refine of_WP (WP.hide fun Q0 hQ0 => ?_)
  simp [b12, tabX, hbd]
  try simp only [bnd_bnd]
  refine WP.bnd (w_forW rcD (fun dn v M' => ∃ o4 o5, v = [some (.xt (U.map rcD)), some (.xt (V.map rcD)), some (.int 1), some (.ref M.length), o4, o5] ∧ M' = M ++ [.dic true ((dn.foldl (addR 1) S).map rcE)]) (fun _ _ _ _ => rfl) V ?_ ?_) ?_
  · exact ⟨_, _, rfl, rfl⟩
  · rintro dn p r v M' hd ⟨o4, o5, rfl, rfl⟩
    have e1 := addR_len 1 dn S
    have hVl : dn.length ≤ V.length := by rw [hd]; simp
    have hVn := gV.n
    have hl2 : (dn.foldl (addR 1) S).length < line := by omega
    have hm : mulOk 1 p.2 = true := mul_left (by omega)
    have hdp : dput ((dn.foldl (addR 1) S).map rcE) (tI0 p.1) (.int ((getR (dn.foldl (addR 1) S) p.1).getD 0 + p.2)) = ((dn ++ [p]).foldl (addR 1) S).map rcE := by
      rw [dput_R, List.foldl_append]
      simp [addR]
    refine WP.hide fun Q hQ => ?_
    simp [b12_f1, rcD, key_tI0, dget_R, getD_int', hm, hl2, hdp]
    exact WP.fin hQ ⟨rfl, _, _, rfl, by simp⟩
  · rintro ⟨fl, v⟩ M' ⟨_, e, o4, o5, rfl, rfl⟩
    cases e
    have e2 := tab_gen (k := k) (j := 11) (M := M ++ [.dic true ((V.foldl (addR 1) S).map rcE)]) (q := M.length) K.h11 g2 h0 (at_here _ _) (by omega)
    simp [e2]
    refine WP.fin hQ0 ?_
    exact fin_of rfl (show (tabX _).pure = true from En.pure (tabOf (V.foldl (addR 1) S))) _
theorem some33 (K : K33 P) (hd : ds.length ≤ line) (hw : WM ds M) (h0 : 0 < w) (hw3 : w ≤ 3) (hk : 4 ≤ k) : ∃ (U : List Rc) (M' : Mem), callAt P k 13 [.ref 2, .int (w : Int), .int 8] M = some (tabX U, M') ∧ Gd w 8 U ∧ Gm ds M M' := by
  obtain ⟨k, rfl⟩ : ∃ z, k = z + 1 := ⟨k - 1, by omega⟩
  have hline : line = 16000000 := rfl
  have l6 : (6 : Nat) ≤ line := by decide
  have hl2 := wm2 hw
  obtain ⟨c, M1, e1, b1, g1, _⟩ := next_W (k := k) K.h6 hd (hw.app [MO.dic true []]) (m := 9) (by decide) (by omega)
  have okc : rOk 0 (c : Int) := rOk_of (by omega)
  have hq1 : M1[M.length]? = some (.dic true []) := g1.at (by omega) (at_here _ _)
  have key : WP (callAt P (k + 1) 13 [.ref 2, .int (w : Int), .int 8] M) fun d M' => ∃ U, d = tabX U ∧ Gd w 8 U ∧ Gm ds M M' := by
    rw [call_eq K.h13 rfl]
    refine WP.hide fun Q0 hQ0 => ?_
    simp [b13, e1, okc]
    try simp only [bnd_bnd]
    rw [rangeZ]
    refine WP.bnd (w_forW (fun j : Nat => D.int (j : Int)) (fun dn v M' => ∃ (T : List Rc) (o4 o5 : Option D), v = [some (.ref 2), some (.int (w : Int)), some (.int 8), some (.ref M.length), o4, o5, none] ∧ Gm ds M M' ∧ M'[M.length]? = some (.dic true (T.map rcE)) ∧ Gd w dn.length T) (fun _ _ _ _ => rfl) (List.range c) ?_ ?_) ?_
    · exact ⟨[], _, _, rfl, (Gm.app hw _).trans g1, hq1, ⟨List.nodup_nil, (fun p h => nomatch h), Nat.le_refl _⟩⟩
    · rintro dn j r v M' hdn ⟨T, o4, o5, rfl, g, hq, hT⟩
      have hdl : dn.length < c := by
        have := congrArg List.length hdn
        simp at this
        omega
      have hTn := hT.n
      have okw : rOk 0 (w : Int) := rOk_of (by omega)
      obtain ⟨xs, M2, e2, hx1, _, g2⟩ := w_lcd (ds := ds) (body := lcBody (cfA P k) (.call 6 (.cons (.var 0) (.cons (.cst (.int 3)) .nil))) (.nm 6) (.cst (.bl true)) [6] [some (.ref 2), some (.int (w : Int)), some (.int 8), some (.ref M.length), some (.int (j : Int)), o5, none]) D.int (fun z => True) (rangeD 0 (w : Int)) g.w (fun x Mx wx => by
        obtain ⟨y, My, ey, by1, gy, _⟩ := next_W (k := k) K.h6 hd wx (m := 3) (by decide) (by omega)
        exact ⟨(y : Int), My, by simp [ey], trivial, gy⟩)
      rw [rangeN] at hx1
      obtain ⟨x, M3, e3, hx3, g3⟩ := pick_W (k := k) K.h7 K.h6 hd g2.w (xs := [.int 1, .int 1, .int 1, .int 2, .int (-1), .int 3]) (by simp) (by simp [D.pure]) (by omega)
      have hz : ∃ z, x = .int z := by
        simp at hx3
        rcases hx3 with rfl | rfl | rfl | rfl <;> exact ⟨_, rfl⟩
      obtain ⟨z, rfl⟩ := hz
      have g4 := g.trans (g2.trans g3)
      have hq4 : M3[M.length]? = some (.dic true (T.map rcE)) := (g2.trans g3).at (by omega) hq
      have hTl : T.length < line := by omega
      have hk' : isKey true (D.tup (xs.map D.int)) = true := key_tI0 xs
      have hdp : dput (T.map rcE) (D.tup (xs.map D.int)) (.int z) = (putR T xs z).map rcE := dput_R T xs z
      refine WP.hide fun Q hQ => ?_
      simp [b13_f1, okw, e2, l6, e3, hq4, hk', hTl, hdp]
      refine WP.fin hQ ⟨rfl, putR T xs z, _, _, rfl, ?_, ?_, ?_⟩
      · have w4 := wm_setB (n := M.length) g4.w (by omega) (MO.dic true ((putR T xs z).map rcE))
        exact ⟨w4, by rw [List.length_set]; exact g4.l, fun j h1 h2 => by
          rw [List.getElem?_set_ne (by omega)]
          exact g4.s j h1 h2⟩
      · rw [set_selfW, hq4]
        rfl
      · have := put_gd hT hx1 z
        simpa using this
    · rintro ⟨fl, v⟩ M' ⟨_, e, T, o4, o5, rfl, g, hq, hT⟩
      cases e
      have e2 := tab_gen (k := k) (j := 11) (M := M') (q := M.length) K.h11 hT h0 hq (by omega)
      obtain ⟨X, f, gX⟩ := fin_W (d := tabX (tabOf T)) (En.pure (tabOf T)) hw g
      simp [e2, f]
      have hT2 := tabOf_gd hT
      have hT3 := hT2.n
      simp at hT3
      exact WP.fin hQ0 ⟨tabOf T, rfl, ⟨hT2.nd, hT2.l, by omega⟩, gX⟩
  obtain ⟨d, M', e, U, rfl, h1, g⟩ := key
  exact ⟨U, M', e, h1, g⟩
theorem row_same (K : K33 P) {m : Nat} (g : Gd w m T) (hm : m ≤ 900) (hw3 : w ≤ 3) (hk : 5 ≤ k) : callAt P k 9 [tabX T, tabX T] M = some (.bl true, M) := by
  obtain ⟨k, rfl⟩ : ∃ z, k = z + 1 := ⟨k - 1, by omega⟩
  refine same_upX K.h9 (by rw [List.length_map]; have := g.n; omega) fun z hz => ?_
  obtain ⟨p, hp, rfl⟩ := List.mem_map.mp hz
  have hl := g.l p hp
  exact same_en (α := Rc) K.h9 p ⟨⟨by omega, fun _ _ => trivial⟩, trivial⟩ (by show 3 ≤ k; omega)
theorem parts_same (K : K33 P) {m : Nat} (g : Gd w m U) (hm : m ≤ 900) (hw3 : w ≤ 3) (hmany : many ≤ 100) : callAt P 39 9 [partsD pl many U, partsD pl many U] M = some (.bl true, M) := by
  refine same_upT (k := 38) K.h9 (by simp; omega) fun z hz => ?_
  obtain ⟨j, _, rfl⟩ := List.mem_map.mp hz
  exact row_same K (tabOf_gd (part_gd g j)) hm hw3 (by omega)
end
end Ev
namespace Ev
open PySem PySem.W B33
section
variable [Tab] {P : List FD} {i k n q w : Nat} {cf : Cf} {v : Env} {M : Mem} {row : List Int} {pl : List Nat} {T U V : List Rc} {many : Nat} {ds : List Int}
theorem part_set {m : Nat} (g : Gd w m U) (j : Nat) : (U.filter fun p => decide (homeN pl many p = j)).foldl setR [] = partL pl many U j := by
  rw [fold_set _ [] (by rw [List.nil_append]; exact (part_gd g j).nd), List.nil_append]
  rfl
theorem due_loop (K : K33 P) {m : Nat} (g : Gd w m U) (hm : m ≤ 900) (h0 : 0 < w) (hp : ∀ i ∈ pl, i < w) (hl : pl.length ≤ 100) (hmany : 0 < many) (hmany2 : many ≤ 100) {a0 z d3 v6 v8 v10 v11 v12 v13 : Option D} :
    WP (forL (forBody (cfA P 39) (.tp [.nm 10, .nm 11]) b14_f3) none (U.map rcD) [a0, some (.ref 2), z, d3, some (.int (many : Int)), some (pl33 pl), v6, some (tabX U), v8, some (.ref (M.length + many)), v10, v11, v12, v13] (M ++ (List.replicate many (MO.dic true []) ++ [MO.lst ((List.range many).map fun j => D.ref (M.length + j))]))) fun r M' =>
      r.1 = .nx ∧ ∃ v10 v11 v12, r.2 = [a0, some (.ref 2), z, d3, some (.int (many : Int)), some (pl33 pl), v6, some (tabX U), v8, some (.ref (M.length + many)), v10, v11, v12, v13] ∧
        M' = M ++ (((dist setR (homeN pl many) many U).map fun T => MO.dic true (T.map rcE)) ++ [MO.lst ((List.range many).map fun j => D.ref (M.length + j))]) := by
  have hline : line = 16000000 := rfl
  have hd0 : dist setR (homeN pl many) many [] = List.replicate many [] := by
    unfold dist
    simp [List.map_const']
  have hst : List.replicate many (MO.dic true []) = (dist setR (homeN pl many) many []).map fun T => MO.dic true (T.map rcE) := by rw [hd0]; simp
  rw [hst]
  have hlen : ∀ dn, ((dist setR (homeN pl many) many dn).map fun T => MO.dic true (T.map rcE)).length = many := fun dn => by rw [List.length_map, dist_len]
  have hrows : ∀ dn, (M ++ (((dist setR (homeN pl many) many dn).map fun T => MO.dic true (T.map rcE)) ++ [MO.lst ((List.range many).map fun j => D.ref (M.length + j))]))[M.length + many]? = some (.lst ((List.range many).map fun j => D.ref (M.length + j))) := fun dn => by
    rw [List.getElem?_append_right (by omega), Nat.add_sub_cancel_left, List.getElem?_append_right (by rw [hlen]; omega), hlen, Nat.sub_self]
    rfl
  refine WP.mono (w_forW rcD (fun dn v M' => ∃ v10 v11 v12, v = [a0, some (.ref 2), z, d3, some (.int (many : Int)), some (pl33 pl), v6, some (tabX U), v8, some (.ref (M.length + many)), v10, v11, v12, v13] ∧ M' = M ++ (((dist setR (homeN pl many) many dn).map fun T => MO.dic true (T.map rcE)) ++ [MO.lst ((List.range many).map fun j => D.ref (M.length + j))])) (fun _ _ _ _ => rfl) U ?_ ?_) ?_
  · exact ⟨_, _, _, rfl, rfl⟩
  · rintro dn p r v M' hd ⟨o10, o11, o12, rfl, rfl⟩
    have hpU : p ∈ U := by rw [hd]; simp
    have hdl : dn.length ≤ 900 := by have := g.n; rw [hd] at this; simp at this; omega
    have hpl := g.l p hpU
    obtain ⟨hh1, hh2⟩ := home_lt (pl := pl) hmany p
    have ca := cell_at (M := M) (X := [MO.lst ((List.range many).map fun j => D.ref (M.length + j))]) (fun T : List Rc => MO.dic true (T.map rcE)) (Ls := dist setR (homeN pl many) many dn) (j := homeN pl many p) (by rw [dist_len]; exact hh1)
    rw [dist_at hh1] at ca
    have cs := cell_set (M := M) (X := [MO.lst ((List.range many).map fun j => D.ref (M.length + j))]) (fun T : List Rc => MO.dic true (T.map rcE)) (Ls := dist setR (homeN pl many) many dn) (j := homeN pl many p) (by rw [dist_len]; exact hh1) (setR ((dn.filter fun q => decide (homeN pl many q = homeN pl many p)).foldl setR []) p)
    rw [← dist_snoc hh1] at cs
    have hr := hrows dn
    have hlS : ∀ (A S : List Rc), (A.foldl setR S).length ≤ S.length + A.length := fun A => by
      induction A with
      | nil => exact fun S => Nat.le_refl _
      | cons a A ih =>
        intro S
        have h1 := ih (setR S a)
        have h2 : (setR S a).length ≤ S.length + 1 := putR_len S a.1 a.2
        rw [List.foldl_cons, List.length_cons]
        omega
    have hall : ((dn.filter fun q => decide (homeN pl many q = homeN pl many p)).foldl setR []).length < line := by
      have h1 := hlS (dn.filter fun q => decide (homeN pl many q = homeN pl many p)) []
      have h2 := List.length_filter_le (fun q => decide (homeN pl many q = homeN pl many p)) dn
      simp at h1
      omega
    refine WP.hide fun Q hQ => ?_
    have e1 := fun Mx => partof_k (k := 39) (M := Mx) (row := p.1) (pl := pl) (many := many) K (by rw [hpl]; exact hp) hl hmany (by omega)
    generalize (dn.filter fun q => decide (homeN pl many q = homeN pl many p)).foldl setR [] = F at ca cs hall
    generalize M ++ (((dist setR (homeN pl many) many dn).map fun T => MO.dic true (T.map rcE)) ++ [MO.lst ((List.range many).map fun j => D.ref (M.length + j))]) = Mx at ca cs hr ⊢
    have hix : ((List.range many).map fun j => D.ref (M.length + j))[homeN pl many p]? = some (.ref (M.length + homeN pl many p)) := by
      rw [List.getElem?_map, List.getElem?_range hh1]
      rfl
    have ca : Mx[M.length + homeN pl many p]? = some (.dic true (F.map rcE)) := ca
    have hdp : dput (F.map rcE) (tI0 p.1) (.int p.2) = (setR F p).map rcE := dput_R F p.1 p.2
    have e2 := e1 (Mx.set (M.length + homeN pl many p) (.dic true ((setR F p).map rcE)))
    rw [← hh2] at e2
    have e3 : callAt P 39 9 [.int (homeN pl many p : Int), .int (homeN pl many p : Int)] (Mx.set (M.length + homeN pl many p) (.dic true ((setR F p).map rcE))) = some (.bl true, _) := same_en (α := Int) K.h9 (homeN pl many p : Int) trivial (by decide)
    have ok : rOk 0 (pl.length : Int) := rOk_of (by omega)
    have es := sum_items (M := Mx) (x := .l (((List.range pl.length).map fun j : Nat => ((j : Int) + 1) * p.1.getD (pl.getD j 0) 0).map D.int)) rfl
    have hsv : ((List.range pl.length).map fun j : Nat => ((j : Int) + 1) * p.1.getD (pl.getD j 0) 0).sum = hsum p.1 pl := rfl
    rw [hsv] at es
    have hmany' : (0 : Int) < (many : Int) := by omega
    generalize (List.range many).map (fun j => D.ref (M.length + j)) = refs at hr hix hQ cs ⊢
    have hlc := hsum_ev (M := Mx) (row := p.1) (pl := pl) (body := lcBody (cfA P 39) b14_l2 (.nm 6) (.cst (.bl true)) [6] [a0, some (.ref 2), z, d3, some (.int (many : Int)), some (pl33 pl), v6, some (tabX U), v8, some (.ref (M.length + many)), some (tI0 p.1), some (.int p.2), o12, v13]) (fun j hj => by
      have f1 : pl[j]? = some pl[j] := List.getElem?_eq_getElem hj
      have h2 : pl[j] < p.1.length := by rw [hpl]; exact hp _ (List.getElem_mem hj)
      have f2 : p.1[pl[j]]? = some p.1[pl[j]] := List.getElem?_eq_getElem h2
      have hm : mulOk ((j : Int) + 1) p.1[pl[j]] = true := mul_left (by omega)
      simp [b14_l2, pl33, tI0, f1, f2, hm])
    rw [← rangeZ] at hlc
    generalize ((List.range pl.length).map fun j : Nat => ((j : Int) + 1) * p.1.getD (pl.getD j 0) 0) = L at hlc es
    have hlen2 : lenOf Mx (.v (pl33 pl)) = some pl.length := by simp [pl33]
    generalize pl33 pl = plD at hlc e2 hQ hlen2 ⊢
    simp [b14_f3, rcD, hlen2, ok, hlc, es, hmany]
    rw [← hh2]
    simp [hr, hix, ca, key_tI0, hall, hdp, e2, e3]
    exact WP.fin hQ ⟨rfl, _, _, _, rfl, cs⟩
  · rintro ⟨fl, v⟩ M' ⟨v', e, o10, o11, o12, rfl, rfl⟩
    cases e
    exact ⟨rfl, _, _, _, rfl, rfl⟩
theorem law33_turn (K : K33 P) (hd : ds.length ≤ line) (hw : WM ds M) {d : D} {a0 z v3 v4 v5 v6 v7 v8 v9 v10 v11 v12 v13 : Option D} :
    WP (forBody (cfA P 39) (.nm 2) bT d [a0, some (.ref 2), z, v3, v4, v5, v6, v7, v8, v9, v10, v11, v12, v13] M) fun r M' =>
      r.1 = .nx ∧ (∃ z v3 v4 v5 v6 v7 v8 v9 v10 v11 v12 v13, r.2 = [a0, some (.ref 2), z, v3, v4, v5, v6, v7, v8, v9, v10, v11, v12, v13]) ∧ WM ds M' := by
  refine WP.hide fun Q hQ => ?_
  have hline : line = 16000000 := rfl
  have l2 : (2 : Nat) ≤ line := by decide
  obtain ⟨c1, M1, e1, b1, g1, _⟩ := next_W (k := 39) K.h6 hd hw (m := 3) (by decide) (by omega)
  obtain ⟨c2, M2, e2, b2, g2, _⟩ := next_W (k := 39) K.h6 hd g1.w (m := 4) (by decide) (by omega)
  obtain ⟨w, hwe⟩ : ∃ w : Nat, (w : Int) = 1 + (c1 : Int) := ⟨1 + c1, by omega⟩
  obtain ⟨many, hme⟩ : ∃ m : Nat, (m : Int) = 1 + (c2 : Int) := ⟨1 + c2, by omega⟩
  have h0 : 0 < w := by omega
  have hw3 : w ≤ 3 := by omega
  have hm0 : 0 < many := by omega
  have hm4 : many ≤ 4 := by omega
  simp [bT, t1, e1, e2, l2]
  simp only [← hwe, ← hme]
  obtain ⟨c3, M3, e3, b3, g3, _⟩ := next_W (k := 39) K.h6 hd g2.w (m := 3) (by decide) (by omega)
  have ok3 : rOk 0 (c3 : Int) := rOk_of (by omega)
  obtain ⟨pl, M4, e4, hpl1, hpl2, g4⟩ := w_lcd (ds := ds) (body := lcBody (cfA P 39) b14_l1 (.nm 6) (.cst (.bl true)) [6] [a0, some (.ref 2), some d, some (.int (w : Int)), some (.int (many : Int)), v5, v6, v7, v8, v9, v10, v11, v12, v13]) (fun n : Nat => D.int (n : Int)) (fun n => n < w) (rangeD 0 (c3 : Int)) g3.w (fun x Mx wx => by
    obtain ⟨y, My, ey, by1, gy, _⟩ := next_W (k := 39) K.h6 hd wx (m := (w : Int)) (by omega) (by omega)
    exact ⟨y, My, by simp [b14_l1, ey], by omega, gy⟩)
  rw [rangeN] at hpl1
  obtain ⟨U, M5, e5, gU, g5⟩ := some33 (k := 39) K hd g4.w h0 hw3 (by omega)
  have ok5 : rOk 0 (w : Int) := rOk_of (by omega)
  simp [t2, e3, ok3, e4, t3, e5]
  rw [show pl.map (fun n : Nat => D.int (n : Int)) = pl.map (fun n : Nat => D.int (n : Int)) from rfl]
  obtain ⟨row, M6, e6, hrow, _, g6⟩ := w_lcd (ds := ds) (body := lcBody (cfA P 39) (.op .sub (.call 6 (.cons (.var 1) (.cons (.cst (.int 9)) .nil))) (.cst (.int 4))) (.nm 8) (.cst (.bl true)) [8] [a0, some (.ref 2), some d, some (.int (w : Int)), some (.int (many : Int)), some (pl33 pl), v6, some (tabX U), v8, v9, v10, v11, v12, v13]) D.int (fun _ => True) (rangeD 0 (w : Int)) g5.w (fun x Mx wx => by
    obtain ⟨y, My, ey, _, gy, _⟩ := next_W (k := 39) K.h6 hd wx (m := 9) (by decide) (by omega)
    exact ⟨(y : Int) - 4, My, by simp [ey], trivial, gy⟩)
  rw [rangeN] at hrow
  have hpD : D.tup (pl.map fun n : Nat => D.int (n : Int)) = pl33 pl := rfl
  simp only [hpD]
  have gR : Gd w 1 [(row, (2 : Int))] := ⟨by simp [keysR'], fun p hp => by rw [List.mem_singleton.mp hp]; exact hrow, Nat.le_refl _⟩
  have hdi := dicT1 (M := M6) row 2
  have e7 := tab_gen (k := 39) (j := 11) (M := M6 ++ [.dic true [(tI0 row, .int 2)]]) (q := M6.length) K.h11 gR h0 (at_here _ _) (by omega)
  obtain ⟨W, e8, gW⟩ := lplus_k (k := 39) (M := M6 ++ [.dic true [(tI0 row, .int 2)]]) K gU (tabOf_gd gR) (by omega) h0 (by omega)
  have hdi : kDic true [.tup (row.map D.int), .int 2] M6 = some (.v (.ref M6.length), M6 ++ [.dic true [(tI0 row, .int 2)]]) := hdi
  have w7 : WM ds (M6 ++ [.dic true [(tI0 row, .int 2)]]) := g6.w.app _
  simp [t4, ok5, e6, hdi, e7, e8]
  generalize M6 ++ [.dic true [(tI0 row, .int 2)]] = M7 at w7 ⊢
  have okm : rOk 0 (many : Int) := rOk_of (by omega)
  have hrl : (rangeD 0 (many : Int)).length = many := by simp [rangeD]
  simp [t5, okm]
  rw [w_cells (o := MO.dic true []) (fun d M => by simp), hrl]
  simp [t6, tabX]
  try simp only [bnd_bnd]
  refine WP.bnd (due_loop (M := M7) (U := W) (pl := pl) (many := many) K gW (by omega) h0 hpl2 (by omega) hm0 (by omega)) ?_
  rintro ⟨fl, v⟩ M' ⟨hfl, o10, o11, o12, rfl, rfl⟩
  have hfl : fl = _ := hfl
  subst hfl
  have hlen : ((dist setR (homeN pl many) many W).map fun T => MO.dic true (T.map rcE)).length = many := by rw [List.length_map, dist_len]
  have hr : (M7 ++ (((dist setR (homeN pl many) many W).map fun T => MO.dic true (T.map rcE)) ++ [MO.lst ((List.range many).map fun j => D.ref (M7.length + j))]))[M7.length + many]? = some (.lst ((List.range many).map fun j => D.ref (M7.length + j))) := by
    rw [List.getElem?_append_right (by omega), Nat.add_sub_cancel_left, List.getElem?_append_right (by rw [hlen]; omega), hlen, Nat.sub_self]
    rfl
  have ht : ∀ j, j < many → callAt P 39 11 [.ref (M7.length + j)] (M7 ++ (((dist setR (homeN pl many) many W).map fun T => MO.dic true (T.map rcE)) ++ [MO.lst ((List.range many).map fun j => D.ref (M7.length + j))])) = some (tabX (tabOf (partL pl many W j)), M7 ++ (((dist setR (homeN pl many) many W).map fun T => MO.dic true (T.map rcE)) ++ [MO.lst ((List.range many).map fun j => D.ref (M7.length + j))])) := fun j hj => by
    refine tab_gen K.h11 (part_gd gW j) h0 ?_ (by omega)
    rw [cell_at (fun T : List Rc => MO.dic true (T.map rcE)) (by rw [dist_len]; exact hj), dist_at hj, part_set gW j]
    rfl
  have wM := w7.app (((dist setR (homeN pl many) many W).map fun T => MO.dic true (T.map rcE)) ++ [MO.lst ((List.range many).map fun j => D.ref (M7.length + j))])
  generalize M7 ++ (((dist setR (homeN pl many) many W).map fun T => MO.dic true (T.map rcE)) ++ [MO.lst ((List.range many).map fun j => D.ref (M7.length + j))]) = M8 at hr ht wM ⊢
  have e9 := parts_k (k := 39) (M := M8) (pl := pl) (many := many) K gW (by omega) h0 hpl2 (by omega) hm0 (by omega) (by omega)
  have e10 := parts_same (M := M8) (pl := pl) (many := many) K gW (by omega) hw3 (by omega)
  simp [t7, e9, hr]
  rw [w_lcm (fun j : Nat => D.ref (M7.length + j)) (fun j => tabX (tabOf (partL pl many W j))) (by simp [hr]) (fun j hj => by simp [ht j (List.mem_range.mp hj)])]
  rw [show (List.range many).map (fun j => tabX (tabOf (partL pl many W j))) = (List.range many).map fun j => tabX (tabOf (partL pl many W j)) from rfl]
  have hpd : D.tup ((List.range many).map fun j => tabX (tabOf (partL pl many W j))) = partsD pl many W := rfl
  simp [hpd, e10]
  exact WP.fin hQ ⟨rfl, ⟨_, _, _, _, _, _, _, _, _, _, _, _, rfl⟩, wM⟩
theorem law33 (K : K33 P) (ns : List Int) (hn : ns.length ≤ 63) : ∃ M, callAt P 40 14 [.fz (ns.map .int)] [] = some (.bl true, M) := by
  have hline : line = 16000000 := rfl
  refine law_gen (N := 12) (many := 400) (turns := 6) K.h5 K.h14 (by omega) (by omega) (fun s v => ∃ z v3 v4 v5 v6 v7 v8 v9 v10 v11 v12 v13, v = [some s, some (.ref 2), z, v3, v4, v5, v6, v7, v8, v9, v10, v11, v12, v13]) (fun s => ⟨_, _, _, _, _, _, _, _, _, _, _, _, rfl⟩) (fun s ds M d v hds hw hv => ?_) ns hn
  obtain ⟨z, v3, v4, v5, v6, v7, v8, v9, v10, v11, v12, v13, rfl⟩ := hv
  obtain ⟨⟨fl, v⟩, M', e, h1, h2, h3⟩ := law33_turn K (ds := ds) (M := M) (by omega) hw (d := d) (a0 := some s) (z := z) (v3 := v3) (v4 := v4) (v5 := v5) (v6 := v6) (v7 := v7) (v8 := v8) (v9 := v9) (v10 := v10) (v11 := v11) (v12 := v12) (v13 := v13)
  have h1 : fl = _ := h1
  subst h1
  exact ⟨v, M', e, h2, h3⟩
end
end Ev
set_option maxRecDepth 100000
set_option maxHeartbeats 0
namespace Row
open PySem PySem.Spec PyProof.Rows L2 Ev
def top (i : Nat) : Stmt := PySem.Challenge.pw_changewarrant_k33_tables_parted.main.body.getD i (.Pass ⟨0, 0, 0, 0⟩)
def inCls (st : Stmt) (j : Nat) : Stmt := match st with
  | .ClassDef _ _ _ b _ _ _ _ _ _ _ => b.getD j (.Pass ⟨0, 0, 0, 0⟩)
  | _ => .Pass ⟨0, 0, 0, 0⟩
instance tab : Tab := ⟨[], by decide +kernel, [], [], [], []⟩
def d0 : He.DefD := ⟨("add_to", none), "add_to", "add_to", defArgs (top 1), defBody (top 1), defScope (top 1), [], []⟩
def d1 : He.DefD := ⟨("table_of_counts", none), "table_of_counts", "table_of_counts", defArgs (top 2), defBody (top 2), defScope (top 2), [], []⟩
def d2 : He.DefD := ⟨("table_of", none), "table_of", "table_of", defArgs (top 3), defBody (top 3), defScope (top 3), [], []⟩
def d3 : He.DefD := ⟨("part_of", none), "part_of", "part_of", defArgs (top 5), defBody (top 5), defScope (top 5), [], []⟩
def d4 : He.DefD := ⟨("parts", none), "parts", "parts", defArgs (top 6), defBody (top 6), defScope (top 6), [], []⟩
def d5 : He.DefD := ⟨("_law_draws", none), "_law_draws", "_law_draws", defArgs (top 8), defBody (top 8), defScope (top 8), [], []⟩
def d6 : He.DefD := ⟨("_law_next", none), "_law_next", "_law_next", defArgs (top 9), defBody (top 9), defScope (top 9), [], []⟩
def d7 : He.DefD := ⟨("_law_pick", none), "_law_pick", "_law_pick", defArgs (top 10), defBody (top 10), defScope (top 10), [], []⟩
def d8 : He.DefD := ⟨("_law_says", none), "_law_says", "_law_says", defArgs (top 11), defBody (top 11), defScope (top 11), [], []⟩
def d9 : He.DefD := ⟨("_law_same", none), "_law_same", "_law_same", defArgs (top 12), defBody (top 12), defScope (top 12), [], []⟩
def d10 : He.DefD := ⟨("_law_number", none), "_law_number", "_law_number", defArgs (top 13), defBody (top 13), defScope (top 13), [], []⟩
def d11 : He.DefD := ⟨("_law_table", none), "_law_table", "_law_table", defArgs (top 14), defBody (top 14), defScope (top 14), [], []⟩
def d12 : He.DefD := ⟨("_law_plus", none), "_law_plus", "_law_plus", defArgs (top 15), defBody (top 15), defScope (top 15), [], []⟩
def d13 : He.DefD := ⟨("_law_some", none), "_law_some", "_law_some", defArgs (top 16), defBody (top 16), defScope (top 16), [], []⟩
def d14 : He.DefD := ⟨("law", none), "law", "law", defArgs (top 17), defBody (top 17), defScope (top 17), [], []⟩
def es : List DE := [⟨d0, ["counts", "table", "k", "row", "count"], ["counts", "table", "k"]⟩, ⟨d1, ["counts", "row"], ["counts"]⟩, ⟨d2, ["pairs", "counts"], ["pairs"]⟩, ⟨d3, ["row", "places", "many", "k"], ["row", "places", "many"]⟩, ⟨d4, ["table", "places", "many", "rows", "_", "pair", "row"], ["table", "places", "many"]⟩, ⟨d5, ["script", "many", "draws", "mixed", "k", "cell", "rest", "turn"], ["script", "many"]⟩, ⟨d6, ["w", "many"], ["w", "many"]⟩, ⟨d7, ["w", "rows"], ["w", "rows"]⟩, ⟨d8, ["told", "due"], ["told", "due"]⟩, ⟨d9, ["told", "due", "k"], ["told", "due"]⟩, ⟨d10, ["thing", "least"], ["thing", "least"]⟩, ⟨d11, ["counts", "row"], ["counts"]⟩, ⟨d12, ["one", "other", "k", "counts", "row", "count"], ["one", "other", "k"]⟩, ⟨d13, ["w", "width", "most", "counts", "k", "row", "i"], ["w", "width", "most"]⟩, ⟨d14, ["script", "w", "turn", "width", "many", "places", "k", "table", "i", "due", "row", "count", "home", "one"], ["script"]⟩]
def com : Com := ⟨[6011, 8013, 62011, 64013, 69013, 80044, 81015], [("add_to", 0), ("table_of_counts", 1), ("table_of", 2), ("part_of", 3), ("parts", 4), ("_law_draws", 5), ("_law_next", 6), ("_law_pick", 7), ("_law_says", 8), ("_law_same", 9), ("_law_number", 10), ("_law_table", 11), ("_law_plus", 12), ("_law_some", 13), ("law", 14)], [], ["len", "tuple", "sorted", "sum", "abs", "int", "isinstance", "range", "bool", "str", "dict"]⟩
/-- add_to -/
def b0 : Ss := (.cons (.for (.tp [(.nm 3), (.nm 4)]) (.ex (.var 1)) (.cons (.asg (.sub (.var 0) (.var 3)) (.op .add (.meth (.var 0) none (some .get) (.cons (.var 3) (.cons (.cst (.int 0)) .nil))) (.op .mul (.var 2) (.var 4)))) .nil)) .nil)
/-- table_of_counts -/
def b1 : Ss := (.cons (.ret (.bi .xtup (.cons (.lc (.tup (.cons (.var 1) (.cons (.ix (.var 0) (.var 1)) .nil))) (.nm 1) (.ex (.bi .sorted (.cons (.var 0) .nil))) (.op .ne (.ix (.var 0) (.var 1)) (.cst (.int 0))) [1]) .nil))) .nil)
/-- table_of -/
def b2 : Ss := (.cons (.asg (.tg (.nm 1)) (.dic true .nil)) (.cons (.expr (.call 0 (.cons (.var 1) (.cons (.var 0) (.cons (.cst (.int 1)) .nil))))) (.cons (.ret (.call 1 (.cons (.var 1) .nil))) .nil)))
/-- part_of -/
def b3 : Ss := (.cons (.ret (.op .mod (.bi .sum (.cons (.lc (.op .mul (.op .add (.var 3) (.cst (.int 1))) (.ix (.var 0) (.ix (.var 1) (.var 3)))) (.nm 3) (.rng (.cst (.int 0)) (.bi .len (.cons (.var 1) .nil))) (.cst (.bl true)) [3]) .nil)) (.var 2))) .nil)
/-- parts -/
def b4 : Ss := (.cons (.asg (.tg (.nm 3)) (.lc (.lst .nil) (.nm 4) (.rng (.cst (.int 0)) (.var 2)) (.cst (.bl true)) [4])) (.cons (.for (.nm 5) (.ex (.var 0)) (.cons (.expr (.meth (.ix (.var 3) (.call 3 (.cons (.ix (.var 5) (.cst (.int 0))) (.cons (.var 1) (.cons (.var 2) .nil))))) none (some .append) (.cons (.var 5) .nil))) .nil)) (.cons (.ret (.bi .tuple (.cons (.lc (.call 2 (.cons (.var 6) .nil)) (.nm 6) (.ex (.var 3)) (.cst (.bl true)) [6]) .nil))) .nil)))
/-- _law_draws -/
def b5 : Ss := (.cons (.asg (.tg (.nm 2)) (.lst .nil)) (.cons (.asg (.tg (.nm 3)) (.cst (.int 7))) (.cons (.for (.nm 4) (.rng (.cst (.int 0)) (.bi .len (.cons (.var 0) .nil))) (.cons (.asg (.tg (.nm 5)) (.bi .abs (.cons (.bi .int (.cons (.ix (.var 0) (.var 4)) .nil)) .nil))) (.cons (.asg (.tg (.nm 3)) (.op .mod (.bi .int (.cons (.op .add (.op .add (.op .mul (.var 3) (.cst (.int 48271))) (.op .mod (.var 5) (.cst (.int 1000003)))) (.var 4)) .nil)) (.cst (.int 65537)))) (.cons (.asg (.tg (.nm 6)) (.cst (.int 0))) (.cons (.ite (.op .ge (.var 5) (.op .pow (.cst (.int 10)) (.cst (.int 18)))) (.cons (.asg (.tg (.nm 6)) (.var 5)) .nil) (.cons (.expr (.meth (.var 2) none (some .append) (.cons (.op .mod (.bi .int (.cons (.var 5) .nil)) (.cst (.int 997))) .nil))) (.cons (.expr (.meth (.var 2) none (some .append) (.cons (.op .mod (.op .mod (.bi .int (.cons (.op .add (.op .mul (.var 3) (.cst (.int 69621))) (.cst (.int 5))) .nil)) (.cst (.int 65521))) (.cst (.int 997))) .nil))) .nil))) (.cons (.for (.nm 7) (.rng (.cst (.int 0)) (.cst (.int 60))) (.cons (.ite (.op .gt (.var 6) (.cst (.int 0))) (.cons (.expr (.meth (.var 2) none (some .append) (.cons (.op .mod (.bi .int (.cons (.var 6) .nil)) (.cst (.int 997))) .nil))) (.cons (.asg (.tg (.nm 6)) (.op .fdiv (.var 6) (.cst (.int 997)))) .nil)) .nil) .nil)) .nil)))))) (.cons (.for (.nm 4) (.rng (.cst (.int 0)) (.var 1)) (.cons (.asg (.tg (.nm 3)) (.op .mod (.bi .int (.cons (.op .add (.op .add (.op .mul (.var 3) (.cst (.int 16807))) (.var 4)) (.cst (.int 1))) .nil)) (.cst (.int 65537)))) (.cons (.expr (.meth (.var 2) none (some .append) (.cons (.op .mod (.bi .int (.cons (.var 3) .nil)) (.cst (.int 997))) .nil))) .nil))) (.cons (.ret (.sl (.var 2) (.cst .non) (.op .sub (.var 1) (.cst (.int 0))))) .nil)))))
/-- _law_next -/
def b6 : Ss := (.cons (.augs (.var 0) (.cst (.str "at")) .add (.cst (.int 1))) (.cons (.ite (.op .gt (.ix (.var 0) (.cst (.str "at"))) (.bi .len (.cons (.ix (.var 0) (.cst (.str "draws"))) .nil))) (.cons (.ret (.cst (.int 0))) .nil) .nil) (.cons (.ret (.op .mod (.bi .int (.cons (.ix (.ix (.var 0) (.cst (.str "draws"))) (.op .sub (.ix (.var 0) (.cst (.str "at"))) (.cst (.int 1)))) .nil)) (.var 1))) .nil)))
/-- _law_pick -/
def b7 : Ss := (.cons (.ret (.ix (.var 1) (.call 6 (.cons (.var 0) (.cons (.bi .len (.cons (.var 1) .nil)) .nil))))) .nil)
/-- _law_says -/
def b8 : Ss := (.cons (.ret (.and (.isi (.var 0) .bool) (.op .eq (.var 0) (.var 1)))) .nil)
/-- _law_same -/
def b9 : Ss := (.cons (.ite (.isi (.var 1) .tuple) (.cons (.ite (.or (.not (.isi (.var 0) .tuple)) (.op .ne (.bi .len (.cons (.var 0) .nil)) (.bi .len (.cons (.var 1) .nil)))) (.cons (.ret (.cst (.bl false))) .nil) .nil) (.cons (.ret (.op .eq (.lc (.var 2) (.nm 2) (.rng (.cst (.int 0)) (.bi .len (.cons (.var 1) .nil))) (.not (.call 9 (.cons (.ix (.var 0) (.var 2)) (.cons (.ix (.var 1) (.var 2)) .nil)))) [2]) (.lst .nil))) .nil)) .nil) (.cons (.ite (.op .is (.var 1) (.cst .non)) (.cons (.ret (.op .is (.var 0) (.cst .non))) .nil) .nil) (.cons (.ite (.isi (.var 1) .str) (.cons (.ret (.and (.isi (.var 0) .str) (.op .eq (.var 0) (.var 1)))) .nil) .nil) (.cons (.ret (.and (.isi (.var 0) .int) (.and (.op .eq (.isi (.var 0) .bool) (.isi (.var 1) .bool)) (.op .eq (.var 0) (.var 1))))) .nil))))
/-- _law_number -/
def b10 : Ss := (.cons (.ret (.and (.isi (.var 0) .int) (.and (.not (.isi (.var 0) .bool)) (.op .ge (.var 0) (.var 1))))) .nil)
/-- _law_table -/
def b11 : Ss := (.cons (.ret (.bi .xtup (.cons (.lc (.tup (.cons (.var 1) (.cons (.ix (.var 0) (.var 1)) .nil))) (.nm 1) (.ex (.bi .sorted (.cons (.var 0) .nil))) (.op .ne (.ix (.var 0) (.var 1)) (.cst (.int 0))) [1]) .nil))) .nil)
/-- _law_plus -/
def b12 : Ss := (.cons (.asg (.tg (.nm 3)) (.bi (.dict true) (.cons (.var 0) .nil))) (.cons (.for (.tp [(.nm 4), (.nm 5)]) (.ex (.var 1)) (.cons (.asg (.sub (.var 3) (.var 4)) (.op .add (.meth (.var 3) none (some .get) (.cons (.var 4) (.cons (.cst (.int 0)) .nil))) (.op .mul (.var 2) (.var 5)))) .nil)) (.cons (.ret (.call 11 (.cons (.var 3) .nil))) .nil)))
/-- _law_some -/
def b13 : Ss := (.cons (.asg (.tg (.nm 3)) (.dic true .nil)) (.cons (.for (.nm 4) (.rng (.cst (.int 0)) (.call 6 (.cons (.var 0) (.cons (.op .add (.var 2) (.cst (.int 1))) .nil)))) (.cons (.asg (.tg (.nm 5)) (.bi .tuple (.cons (.lc (.call 6 (.cons (.var 0) (.cons (.cst (.int 3)) .nil))) (.nm 6) (.rng (.cst (.int 0)) (.var 1)) (.cst (.bl true)) [6]) .nil))) (.cons (.asg (.sub (.var 3) (.var 5)) (.call 7 (.cons (.var 0) (.cons (.lst (.cons (.cst (.int 1)) (.cons (.cst (.int 1)) (.cons (.cst (.int 1)) (.cons (.cst (.int 2)) (.cons (.neg (.cst (.int 1))) (.cons (.cst (.int 3)) .nil))))))) .nil)))) .nil))) (.cons (.ret (.call 11 (.cons (.var 3) .nil))) .nil)))
/-- law -/
def b14 : Ss := (.cons (.asg (.tg (.nm 1)) (.dic false (.cons (.cst (.str "draws")) (.cons (.call 5 (.cons (.var 0) (.cons (.cst (.int 400)) .nil))) (.cons (.cst (.str "at")) (.cons (.cst (.int 0)) .nil)))))) (.cons (.for (.nm 2) (.rng (.cst (.int 0)) (.cst (.int 6))) (.cons (.asg (.tg (.tp [(.nm 3), (.nm 4)])) (.tup (.cons (.op .add (.cst (.int 1)) (.call 6 (.cons (.var 1) (.cons (.cst (.int 3)) .nil)))) (.cons (.op .add (.cst (.int 1)) (.call 6 (.cons (.var 1) (.cons (.cst (.int 4)) .nil)))) .nil)))) (.cons (.asg (.tg (.nm 5)) (.bi .tuple (.cons (.lc (.call 6 (.cons (.var 1) (.cons (.var 3) .nil))) (.nm 6) (.rng (.cst (.int 0)) (.call 6 (.cons (.var 1) (.cons (.cst (.int 3)) .nil)))) (.cst (.bl true)) [6]) .nil))) (.cons (.asg (.tg (.nm 7)) (.call 13 (.cons (.var 1) (.cons (.var 3) (.cons (.cst (.int 8)) .nil))))) (.cons (.asg (.tg (.nm 7)) (.call 12 (.cons (.var 7) (.cons (.call 11 (.cons (.dic true (.cons (.bi .tuple (.cons (.lc (.op .sub (.call 6 (.cons (.var 1) (.cons (.cst (.int 9)) .nil))) (.cst (.int 4))) (.nm 8) (.rng (.cst (.int 0)) (.var 3)) (.cst (.bl true)) [8]) .nil)) (.cons (.cst (.int 2)) .nil))) .nil)) (.cons (.cst (.int 1)) .nil))))) (.cons (.asg (.tg (.nm 9)) (.lc (.dic true .nil) (.nm 6) (.rng (.cst (.int 0)) (.var 4)) (.cst (.bl true)) [6])) (.cons (.for (.tp [(.nm 10), (.nm 11)]) (.ex (.var 7)) (.cons (.asg (.tg (.nm 12)) (.op .mod (.bi .sum (.cons (.lc (.op .mul (.op .add (.var 6) (.cst (.int 1))) (.ix (.var 10) (.ix (.var 5) (.var 6)))) (.nm 6) (.rng (.cst (.int 0)) (.bi .len (.cons (.var 5) .nil))) (.cst (.bl true)) [6]) .nil)) (.var 4))) (.cons (.asg (.sub (.ix (.var 9) (.var 12)) (.var 10)) (.var 11)) (.cons (.ite (.not (.call 9 (.cons (.call 3 (.cons (.var 10) (.cons (.var 5) (.cons (.var 4) .nil)))) (.cons (.var 12) .nil)))) (.cons (.ret (.cst (.bl false))) .nil) .nil) .nil)))) (.cons (.ite (.not (.call 9 (.cons (.call 4 (.cons (.var 7) (.cons (.var 5) (.cons (.var 4) .nil)))) (.cons (.bi .tuple (.cons (.lc (.call 11 (.cons (.var 13) .nil)) (.nm 13) (.ex (.var 9)) (.cst (.bl true)) [13]) .nil)) .nil)))) (.cons (.ret (.cst (.bl false))) .nil) .nil) .nil)))))))) (.cons (.ret (.cst (.bl true))) .nil)))
def P : List FD := [⟨3, 5, b0⟩, ⟨1, 2, b1⟩, ⟨1, 2, b2⟩, ⟨3, 4, b3⟩, ⟨3, 7, b4⟩, ⟨2, 8, b5⟩, ⟨2, 2, b6⟩, ⟨2, 2, b7⟩, ⟨2, 2, b8⟩, ⟨2, 3, b9⟩, ⟨2, 2, b10⟩, ⟨1, 2, b11⟩, ⟨3, 6, b12⟩, ⟨3, 7, b13⟩, ⟨1, 14, b14⟩]
theorem comp : compAll 60 com es = some P := by kernel_rfl
def fn : List He.DefD := [d0, d1, d2, d3, d4, d5, d6, d7, d8, d9, d10, d11, d12, d13, d14]
def fa : List He.Fa := [.glo "add_to", .glo "table_of_counts", .glo "table_of", .glo "part_of", .glo "parts", .glo "_law_draws", .glo "_law_next", .glo "_law_pick", .glo "_law_says", .glo "_law_same", .glo "_law_number", .glo "_law_table", .glo "_law_plus", .glo "_law_some", .glo "law", .free "len", .free "tuple", .free "sorted", .free "sum", .free "abs", .free "int", .free "isinstance", .free "range", .free "bool", .free "str", .free "dict"]
abbrev R : PySem.W.OpenRow := PySem.W.OpenLaw.row PySem.Challenge.rw_changewarrant_k33_tables_parted
abbrev hk : PySem.W.Hook := He.hookD 4 fa fn
def ob (s : PySem.W.SharedT) : He.AlD := He.obsDG 4 fa fn (HandSHeadRun.getT s)
theorem ob_eq (s : PySem.W.SharedT) : ob s = hk.obs s.abs := He.obsDG_eq (HandSHeadRun.getT_eq s)
theorem run (w : World) : HandSHeadRun.RunEq R (PySem.W.view R.prog [17]) hk ob 4000 ["add_to", "table_of_counts", "table_of", "part_of", "parts", "_law_draws", "_law_next", "_law_pick", "_law_says", "_law_same", "_law_number", "_law_table", "_law_plus", "_law_some"] w := by
  intro os
  kernel_rfl
abbrev ad (K : PySem.W.Frag) (i : Nat) : Addr := match es[i]? with
  | some e => He.fAd K e.d.at_
  | none => 0
theorem facts {K : PySem.W.Frag} {h : Heap} {mg : Str → Option Value} (X : K.In h) (G : h.Ns mainGlobals mg) (c : He.SaysD fa fn K) : Facts K mg com es (ad K) where
  df := fun i e he => by
    match i, he with
    | 0, he =>
      cases he
      obtain ⟨fd, F⟩ := c.def_ 0 (d := d0) rfl
      exact ⟨fd, F, FunD.bindsN (ps := ["counts", "table", "k"]) F fun _ _ _ _ _ _ us hl => match us, hl with | [_, _, _], _ => rfl⟩
    | 1, he =>
      cases he
      obtain ⟨fd, F⟩ := c.def_ 1 (d := d1) rfl
      exact ⟨fd, F, FunD.bindsN (ps := ["counts"]) F fun _ _ _ _ _ _ us hl => match us, hl with | [_], _ => rfl⟩
    | 2, he =>
      cases he
      obtain ⟨fd, F⟩ := c.def_ 2 (d := d2) rfl
      exact ⟨fd, F, FunD.bindsN (ps := ["pairs"]) F fun _ _ _ _ _ _ us hl => match us, hl with | [_], _ => rfl⟩
    | 3, he =>
      cases he
      obtain ⟨fd, F⟩ := c.def_ 3 (d := d3) rfl
      exact ⟨fd, F, FunD.bindsN (ps := ["row", "places", "many"]) F fun _ _ _ _ _ _ us hl => match us, hl with | [_, _, _], _ => rfl⟩
    | 4, he =>
      cases he
      obtain ⟨fd, F⟩ := c.def_ 4 (d := d4) rfl
      exact ⟨fd, F, FunD.bindsN (ps := ["table", "places", "many"]) F fun _ _ _ _ _ _ us hl => match us, hl with | [_, _, _], _ => rfl⟩
    | 5, he =>
      cases he
      obtain ⟨fd, F⟩ := c.def_ 5 (d := d5) rfl
      exact ⟨fd, F, FunD.bindsN (ps := ["script", "many"]) F fun _ _ _ _ _ _ us hl => match us, hl with | [_, _], _ => rfl⟩
    | 6, he =>
      cases he
      obtain ⟨fd, F⟩ := c.def_ 6 (d := d6) rfl
      exact ⟨fd, F, FunD.bindsN (ps := ["w", "many"]) F fun _ _ _ _ _ _ us hl => match us, hl with | [_, _], _ => rfl⟩
    | 7, he =>
      cases he
      obtain ⟨fd, F⟩ := c.def_ 7 (d := d7) rfl
      exact ⟨fd, F, FunD.bindsN (ps := ["w", "rows"]) F fun _ _ _ _ _ _ us hl => match us, hl with | [_, _], _ => rfl⟩
    | 8, he =>
      cases he
      obtain ⟨fd, F⟩ := c.def_ 8 (d := d8) rfl
      exact ⟨fd, F, FunD.bindsN (ps := ["told", "due"]) F fun _ _ _ _ _ _ us hl => match us, hl with | [_, _], _ => rfl⟩
    | 9, he =>
      cases he
      obtain ⟨fd, F⟩ := c.def_ 9 (d := d9) rfl
      exact ⟨fd, F, FunD.bindsN (ps := ["told", "due"]) F fun _ _ _ _ _ _ us hl => match us, hl with | [_, _], _ => rfl⟩
    | 10, he =>
      cases he
      obtain ⟨fd, F⟩ := c.def_ 10 (d := d10) rfl
      exact ⟨fd, F, FunD.bindsN (ps := ["thing", "least"]) F fun _ _ _ _ _ _ us hl => match us, hl with | [_, _], _ => rfl⟩
    | 11, he =>
      cases he
      obtain ⟨fd, F⟩ := c.def_ 11 (d := d11) rfl
      exact ⟨fd, F, FunD.bindsN (ps := ["counts"]) F fun _ _ _ _ _ _ us hl => match us, hl with | [_], _ => rfl⟩
    | 12, he =>
      cases he
      obtain ⟨fd, F⟩ := c.def_ 12 (d := d12) rfl
      exact ⟨fd, F, FunD.bindsN (ps := ["one", "other", "k"]) F fun _ _ _ _ _ _ us hl => match us, hl with | [_, _, _], _ => rfl⟩
    | 13, he =>
      cases he
      obtain ⟨fd, F⟩ := c.def_ 13 (d := d13) rfl
      exact ⟨fd, F, FunD.bindsN (ps := ["w", "width", "most"]) F fun _ _ _ _ _ _ us hl => match us, hl with | [_, _, _], _ => rfl⟩
    | 14, he =>
      cases he
      obtain ⟨fd, F⟩ := c.def_ 14 (d := d14) rfl
      exact ⟨fd, F, FunD.bindsN (ps := ["script"]) F fun _ _ _ _ _ _ us hl => match us, hl with | [_], _ => rfl⟩
    | _ + 15, he => cases he
  fu := fun x i hx => AllP.mem (Q := fun p => mg p.1 = some (.ref (ad K p.2)) ∧ p.2 < es.length) (l := com.funs) ⟨⟨He.glo_ok X G (c.fact 0 (f := .glo "add_to") rfl), by decide⟩, ⟨He.glo_ok X G (c.fact 1 (f := .glo "table_of_counts") rfl), by decide⟩, ⟨He.glo_ok X G (c.fact 2 (f := .glo "table_of") rfl), by decide⟩, ⟨He.glo_ok X G (c.fact 3 (f := .glo "part_of") rfl), by decide⟩, ⟨He.glo_ok X G (c.fact 4 (f := .glo "parts") rfl), by decide⟩, ⟨He.glo_ok X G (c.fact 5 (f := .glo "_law_draws") rfl), by decide⟩, ⟨He.glo_ok X G (c.fact 6 (f := .glo "_law_next") rfl), by decide⟩, ⟨He.glo_ok X G (c.fact 7 (f := .glo "_law_pick") rfl), by decide⟩, ⟨He.glo_ok X G (c.fact 8 (f := .glo "_law_says") rfl), by decide⟩, ⟨He.glo_ok X G (c.fact 9 (f := .glo "_law_same") rfl), by decide⟩, ⟨He.glo_ok X G (c.fact 10 (f := .glo "_law_number") rfl), by decide⟩, ⟨He.glo_ok X G (c.fact 11 (f := .glo "_law_table") rfl), by decide⟩, ⟨He.glo_ok X G (c.fact 12 (f := .glo "_law_plus") rfl), by decide⟩, ⟨He.glo_ok X G (c.fact 13 (f := .glo "_law_some") rfl), by decide⟩, ⟨He.glo_ok X G (c.fact 14 (f := .glo "law") rfl), by decide⟩, trivial⟩ _ (PySem.mem_of_lookup hx)
  cl := fun _ _ h => by cases h
  me := fun _ _ _ _ _ h => by cases h
  fr := fun x hx => AllP.mem (Q := fun x => mg x = none) (l := com.free) ⟨He.free_ok X G (c.fact 15 (f := .free "len") rfl), He.free_ok X G (c.fact 16 (f := .free "tuple") rfl), He.free_ok X G (c.fact 17 (f := .free "sorted") rfl), He.free_ok X G (c.fact 18 (f := .free "sum") rfl), He.free_ok X G (c.fact 19 (f := .free "abs") rfl), He.free_ok X G (c.fact 20 (f := .free "int") rfl), He.free_ok X G (c.fact 21 (f := .free "isinstance") rfl), He.free_ok X G (c.fact 22 (f := .free "range") rfl), He.free_ok X G (c.fact 23 (f := .free "bool") rfl), He.free_ok X G (c.fact 24 (f := .free "str") rfl), He.free_ok X G (c.fact 25 (f := .free "dict") rfl), trivial⟩ _ hx
open Ev.B33 in
theorem kk : Ev.K33 P := ⟨rfl, rfl, rfl, rfl, rfl, rfl, rfl, rfl, rfl, rfl, rfl, rfl, rfl, rfl, rfl⟩
theorem law_true : ∀ ns : List Int, ns.length ≤ 63 → ∃ M, callAt P 40 14 [.fz (ns.map .int)] [] = some (.bl true, M) := fun ns h => law33 kk ns h
end Row
open PySem PySem.W PySem.Calls PyProof.Rows
theorem PySem.Challenge.cw_changewarrant_k33_tables_parted_holds : PySem.Challenge.rw_changewarrant_k33_tables_parted.Holds := by
  w_on; o_law
  refine HandSHeadRun.head_any (r := OpenLaw.row PySem.Challenge.rw_changewarrant_k33_tables_parted) (q := view (OpenLaw.row PySem.Challenge.rw_changewarrant_k33_tables_parted).prog [17]) (H := Row.hk) (ob := Row.ob) (M := 4000) (loose := ["add_to", "table_of_counts", "table_of", "part_of", "parts", "_law_draws", "_law_next", "_law_pick", "_law_says", "_law_same", "_law_number", "_law_table", "_law_plus", "_law_some"]) (d := HandSHeadRun.topDef (OpenLaw.row PySem.Challenge.rw_changewarrant_k33_tables_parted).prog 17) (kwd := []) Row.ob_eq
    (by kernel_rfl) (fun s => by kernel_rfl) Row.run (by kernel_rfl) (by kernel_rfl) (by kernel_rfl) (by rfl) (by first | assumption | decide +kernel) (by decide +kernel) ⟨rfl, rfl, rfl, rfl, rfl, by decide +kernel⟩ ?hw ?hc
  case hw => w_witness2
  case hc =>
    refine L2.walk_ofE (l := PySem.Challenge.rw_changewarrant_k33_tables_parted) (n := 63) (k := 40) (x := "script") (CX := L2.CX0) rfl (by decide) (by kernel_rfl) ⟨rfl, by decide, by decide⟩ ?F (fun _ _ _ _ z => z)
    intro w mg fa h Y G hmg0
    obtain ⟨K, KX, c⟩ := Y
    have hmg : mg ("law" : PySem.Str) = some (.ref fa) := by
      have e : (HandSHeadRun.topDef (OpenLaw.row PySem.Challenge.rw_changewarrant_k33_tables_parted).prog 17).name = ("law" : PySem.Str) := by kernel_rfl
      rw [← e]
      exact hmg0
    obtain ⟨fd, F⟩ := c.def_ 14 (d := Row.d14) rfl
    have e := hmg.symm.trans (He.glo_ok KX G (c.fact 14 (f := .glo "law") rfl))
    cases e
    refine ⟨K, fd, Ev.spF K mg (Ev.callAt Row.P 40 14), KX, fun s u => L2.FunD.bindsA (ps := ["script"]) F (fun _ _ _ _ _ _ us hl => match us, hl with | [_], _ => rfl) s [u] rfl, fun H a ns hl hO hS => Ev.law_sp Row.law_true (by decide) H a ns hl hO hS _, fun base _ _ => ?_⟩
    exact Ev.text_ok Row.comp (Row.facts KX G c) 40 14 _ fd rfl F

